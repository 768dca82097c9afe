/- Conditions: none. -/
import Derived.Test.YtholafaogipaiaaGreatDoorSh0
import Derived.KernelRfl
namespace Go.Ev
open Go Go.Proofs
set_option maxRecDepth 100000
set_option linter.unusedVariables false
set_option linter.unusedSimpArgs false
noncomputable def pl_fdc : List (Nat × Run) := [(fid_fdg, run_fdg), (fid_fda, run_fda), (fid_fdh, run_fdh)]
noncomputable def G_fdc : Ctx := ctx tyTab fiTab pl_fdc
noncomputable def run_fdc : Run := lim G_fdc fid_fdc
theorem ok_fdc : FnOk Tryz.prog OkT fid_fdc run_fdc := lim_ok (l := pl_fdc) Tryz_mix tyTab_ok fiTab_ok okT (.cons ok_fdg (.cons ok_fda (.cons ok_fdh .nil))) fid_fdc
noncomputable def fdc_l0 (k m : Nat) : Nat → ByteArray → Int → Option Res
  | 0, _, _ => none
  | n + 1, s2, i3 =>
    cond (decide (i3 < (s2.size : Int)))
    ((bytS s2 i3).bind fun i4 =>
    cond (i4 != 45)
    (fdc_l0 k m n s2 (IntKind.i64.wrap (i3 + 1)))
    (cond (decide (i3 < (s2.size : Int)))
    ((subS s2 (IntKind.i64.wrap (i3 + 1)) (s2.size : Int)).bind fun s5 =>
    (callL run_fdg [.one (Cell.str s5), .one (.sc (.int .u8 46))] []).bind fun r6 =>
    cond (shapeOk rk_fdg r6.1)
    ((cC (cellsAt r6.1 0) 0).bind fun c7 =>
    (subS s2 0 i3).bind fun s8 =>
    (callL run_fdg [.one (Cell.str s8), .one (.sc (.int .u8 46))] r6.2).bind fun r9 =>
    cond (shapeOk rk_fdg r9.1)
    ((cC (cellsAt r9.1 0) 0).bind fun c10 =>
    (lenC c10).bind fun n11 =>
    cond ((n11 : Int) != 3)
    (some ([.agg [Cell.int 0, Cell.int 0, Cell.int 0, .lst true 1 []], .one (Cell.bool false)], r9.2))
    ((idxA 1 (c10) 0).bind fun c12 =>
    (deref r9.2 (c12)).bind fun p13 =>
    (cS p13.1 p13.2).bind fun s14 =>
    (callS run_fda [.one (Cell.str s14), .one (Cell.int 9999)] r9.2).bind fun r15 =>
    cond (shapeOk rk_fda r15)
    ((cI .i64 (cellsAt r15 0) 0).bind fun i16 =>
    (cB (cellsAt r15 1) 0).bind fun b17 =>
    (idxA 1 (c10) 1).bind fun c18 =>
    (deref r9.2 (c18)).bind fun p19 =>
    (cS p19.1 p19.2).bind fun s20 =>
    (callS run_fda [.one (Cell.str s20), .one (Cell.int 9999)] r9.2).bind fun r21 =>
    cond (shapeOk rk_fda r21)
    ((cI .i64 (cellsAt r21 0) 0).bind fun i22 =>
    (cB (cellsAt r21 1) 0).bind fun b23 =>
    (idxA 1 (c10) 2).bind fun c24 =>
    (deref r9.2 (c24)).bind fun p25 =>
    (cS p25.1 p25.2).bind fun s26 =>
    (callS run_fda [.one (Cell.str s26), .one (Cell.int 9999)] r9.2).bind fun r27 =>
    cond (shapeOk rk_fda r27)
    ((cI .i64 (cellsAt r27 0) 0).bind fun i28 =>
    (cB (cellsAt r27 1) 0).bind fun b29 =>
    cond (!b17)
    (some ([.agg [Cell.int 0, Cell.int 0, Cell.int 0, .lst true 1 []], .one (Cell.bool false)], r9.2))
    (cond (!b23)
    (some ([.agg [Cell.int 0, Cell.int 0, Cell.int 0, .lst true 1 []], .one (Cell.bool false)], r9.2))
    (cond (!b29)
    (some ([.agg [Cell.int 0, Cell.int 0, Cell.int 0, .lst true 1 []], .one (Cell.bool false)], r9.2))
    ((callS run_fdh [.agg [Cell.int i16, Cell.int i22, Cell.int i28, c7]] r9.2).bind fun r30 =>
    cond (shapeOk rk_fdh r30)
    ((cB (cellsAt r30 0) 0).bind fun b31 =>
    cond (!b31)
    (some ([.agg [Cell.int 0, Cell.int 0, Cell.int 0, .lst true 1 []], .one (Cell.bool false)], r9.2))
    (some ([.agg [Cell.int i16, Cell.int i22, Cell.int i28, c7], .one (Cell.bool true)], r9.2)))
    none))))
    none)
    none)
    none))
    none)
    none)
    ((subS s2 0 i3).bind fun s32 =>
    (callL run_fdg [.one (Cell.str s32), .one (.sc (.int .u8 46))] []).bind fun r33 =>
    cond (shapeOk rk_fdg r33.1)
    ((cC (cellsAt r33.1 0) 0).bind fun c34 =>
    (lenC c34).bind fun n35 =>
    cond ((n35 : Int) != 3)
    (some ([.agg [Cell.int 0, Cell.int 0, Cell.int 0, .lst true 1 []], .one (Cell.bool false)], r33.2))
    ((idxA 1 (c34) 0).bind fun c36 =>
    (deref r33.2 (c36)).bind fun p37 =>
    (cS p37.1 p37.2).bind fun s38 =>
    (callS run_fda [.one (Cell.str s38), .one (Cell.int 9999)] r33.2).bind fun r39 =>
    cond (shapeOk rk_fda r39)
    ((cI .i64 (cellsAt r39 0) 0).bind fun i40 =>
    (cB (cellsAt r39 1) 0).bind fun b41 =>
    (idxA 1 (c34) 1).bind fun c42 =>
    (deref r33.2 (c42)).bind fun p43 =>
    (cS p43.1 p43.2).bind fun s44 =>
    (callS run_fda [.one (Cell.str s44), .one (Cell.int 9999)] r33.2).bind fun r45 =>
    cond (shapeOk rk_fda r45)
    ((cI .i64 (cellsAt r45 0) 0).bind fun i46 =>
    (cB (cellsAt r45 1) 0).bind fun b47 =>
    (idxA 1 (c34) 2).bind fun c48 =>
    (deref r33.2 (c48)).bind fun p49 =>
    (cS p49.1 p49.2).bind fun s50 =>
    (callS run_fda [.one (Cell.str s50), .one (Cell.int 9999)] r33.2).bind fun r51 =>
    cond (shapeOk rk_fda r51)
    ((cI .i64 (cellsAt r51 0) 0).bind fun i52 =>
    (cB (cellsAt r51 1) 0).bind fun b53 =>
    cond (!b41)
    (some ([.agg [Cell.int 0, Cell.int 0, Cell.int 0, .lst true 1 []], .one (Cell.bool false)], r33.2))
    (cond (!b47)
    (some ([.agg [Cell.int 0, Cell.int 0, Cell.int 0, .lst true 1 []], .one (Cell.bool false)], r33.2))
    (cond (!b53)
    (some ([.agg [Cell.int 0, Cell.int 0, Cell.int 0, .lst true 1 []], .one (Cell.bool false)], r33.2))
    ((callS run_fdh [.agg [Cell.int i40, Cell.int i46, Cell.int i52, .lst true 1 []]] r33.2).bind fun r54 =>
    cond (shapeOk rk_fdh r54)
    ((cB (cellsAt r54 0) 0).bind fun b55 =>
    cond (!b55)
    (some ([.agg [Cell.int 0, Cell.int 0, Cell.int 0, .lst true 1 []], .one (Cell.bool false)], r33.2))
    (some ([.agg [Cell.int i40, Cell.int i46, Cell.int i52, .lst true 1 []], .one (Cell.bool true)], r33.2)))
    none))))
    none)
    none)
    none))
    none)))
    (cond (decide (i3 < (s2.size : Int)))
    ((subS s2 (IntKind.i64.wrap (i3 + 1)) (s2.size : Int)).bind fun s56 =>
    (callL run_fdg [.one (Cell.str s56), .one (.sc (.int .u8 46))] []).bind fun r57 =>
    cond (shapeOk rk_fdg r57.1)
    ((cC (cellsAt r57.1 0) 0).bind fun c58 =>
    (subS s2 0 i3).bind fun s59 =>
    (callL run_fdg [.one (Cell.str s59), .one (.sc (.int .u8 46))] r57.2).bind fun r60 =>
    cond (shapeOk rk_fdg r60.1)
    ((cC (cellsAt r60.1 0) 0).bind fun c61 =>
    (lenC c61).bind fun n62 =>
    cond ((n62 : Int) != 3)
    (some ([.agg [Cell.int 0, Cell.int 0, Cell.int 0, .lst true 1 []], .one (Cell.bool false)], r60.2))
    ((idxA 1 (c61) 0).bind fun c63 =>
    (deref r60.2 (c63)).bind fun p64 =>
    (cS p64.1 p64.2).bind fun s65 =>
    (callS run_fda [.one (Cell.str s65), .one (Cell.int 9999)] r60.2).bind fun r66 =>
    cond (shapeOk rk_fda r66)
    ((cI .i64 (cellsAt r66 0) 0).bind fun i67 =>
    (cB (cellsAt r66 1) 0).bind fun b68 =>
    (idxA 1 (c61) 1).bind fun c69 =>
    (deref r60.2 (c69)).bind fun p70 =>
    (cS p70.1 p70.2).bind fun s71 =>
    (callS run_fda [.one (Cell.str s71), .one (Cell.int 9999)] r60.2).bind fun r72 =>
    cond (shapeOk rk_fda r72)
    ((cI .i64 (cellsAt r72 0) 0).bind fun i73 =>
    (cB (cellsAt r72 1) 0).bind fun b74 =>
    (idxA 1 (c61) 2).bind fun c75 =>
    (deref r60.2 (c75)).bind fun p76 =>
    (cS p76.1 p76.2).bind fun s77 =>
    (callS run_fda [.one (Cell.str s77), .one (Cell.int 9999)] r60.2).bind fun r78 =>
    cond (shapeOk rk_fda r78)
    ((cI .i64 (cellsAt r78 0) 0).bind fun i79 =>
    (cB (cellsAt r78 1) 0).bind fun b80 =>
    cond (!b68)
    (some ([.agg [Cell.int 0, Cell.int 0, Cell.int 0, .lst true 1 []], .one (Cell.bool false)], r60.2))
    (cond (!b74)
    (some ([.agg [Cell.int 0, Cell.int 0, Cell.int 0, .lst true 1 []], .one (Cell.bool false)], r60.2))
    (cond (!b80)
    (some ([.agg [Cell.int 0, Cell.int 0, Cell.int 0, .lst true 1 []], .one (Cell.bool false)], r60.2))
    ((callS run_fdh [.agg [Cell.int i67, Cell.int i73, Cell.int i79, c58]] r60.2).bind fun r81 =>
    cond (shapeOk rk_fdh r81)
    ((cB (cellsAt r81 0) 0).bind fun b82 =>
    cond (!b82)
    (some ([.agg [Cell.int 0, Cell.int 0, Cell.int 0, .lst true 1 []], .one (Cell.bool false)], r60.2))
    (some ([.agg [Cell.int i67, Cell.int i73, Cell.int i79, c58], .one (Cell.bool true)], r60.2)))
    none))))
    none)
    none)
    none))
    none)
    none)
    ((subS s2 0 i3).bind fun s83 =>
    (callL run_fdg [.one (Cell.str s83), .one (.sc (.int .u8 46))] []).bind fun r84 =>
    cond (shapeOk rk_fdg r84.1)
    ((cC (cellsAt r84.1 0) 0).bind fun c85 =>
    (lenC c85).bind fun n86 =>
    cond ((n86 : Int) != 3)
    (some ([.agg [Cell.int 0, Cell.int 0, Cell.int 0, .lst true 1 []], .one (Cell.bool false)], r84.2))
    ((idxA 1 (c85) 0).bind fun c87 =>
    (deref r84.2 (c87)).bind fun p88 =>
    (cS p88.1 p88.2).bind fun s89 =>
    (callS run_fda [.one (Cell.str s89), .one (Cell.int 9999)] r84.2).bind fun r90 =>
    cond (shapeOk rk_fda r90)
    ((cI .i64 (cellsAt r90 0) 0).bind fun i91 =>
    (cB (cellsAt r90 1) 0).bind fun b92 =>
    (idxA 1 (c85) 1).bind fun c93 =>
    (deref r84.2 (c93)).bind fun p94 =>
    (cS p94.1 p94.2).bind fun s95 =>
    (callS run_fda [.one (Cell.str s95), .one (Cell.int 9999)] r84.2).bind fun r96 =>
    cond (shapeOk rk_fda r96)
    ((cI .i64 (cellsAt r96 0) 0).bind fun i97 =>
    (cB (cellsAt r96 1) 0).bind fun b98 =>
    (idxA 1 (c85) 2).bind fun c99 =>
    (deref r84.2 (c99)).bind fun p100 =>
    (cS p100.1 p100.2).bind fun s101 =>
    (callS run_fda [.one (Cell.str s101), .one (Cell.int 9999)] r84.2).bind fun r102 =>
    cond (shapeOk rk_fda r102)
    ((cI .i64 (cellsAt r102 0) 0).bind fun i103 =>
    (cB (cellsAt r102 1) 0).bind fun b104 =>
    cond (!b92)
    (some ([.agg [Cell.int 0, Cell.int 0, Cell.int 0, .lst true 1 []], .one (Cell.bool false)], r84.2))
    (cond (!b98)
    (some ([.agg [Cell.int 0, Cell.int 0, Cell.int 0, .lst true 1 []], .one (Cell.bool false)], r84.2))
    (cond (!b104)
    (some ([.agg [Cell.int 0, Cell.int 0, Cell.int 0, .lst true 1 []], .one (Cell.bool false)], r84.2))
    ((callS run_fdh [.agg [Cell.int i91, Cell.int i97, Cell.int i103, .lst true 1 []]] r84.2).bind fun r105 =>
    cond (shapeOk rk_fdh r105)
    ((cB (cellsAt r105 0) 0).bind fun b106 =>
    cond (!b106)
    (some ([.agg [Cell.int 0, Cell.int 0, Cell.int 0, .lst true 1 []], .one (Cell.bool false)], r84.2))
    (some ([.agg [Cell.int i91, Cell.int i97, Cell.int i103, .lst true 1 []], .one (Cell.bool true)], r84.2)))
    none))))
    none)
    none)
    none))
    none))
noncomputable def fdc (k m : Nat) (s1 : ByteArray) : Option Res :=
  fdc_l0 k m m s1 0
noncomputable abbrev fdc_l0_B (k m : Nat) : (Ex → Fr → Option Res) → Fr → Option Res := evC G_fdc fi_fdc (evF G_fdc (k + 1)) m (sub [1, 1, 1, 0, 2, 3] fi_fdc.code) none
noncomputable abbrev fdc_l0_K (k m : Nat) : Ex → Fr → Option Res := blockK 0 (seqK (evC G_fdc fi_fdc (evF G_fdc (k + 1)) m (sub [1, 1, 1, 1] fi_fdc.code) none) (retK G_fdc fi_fdc))
theorem fdc_l0_eq (k m : Nat) : ∀ (n : Nat) (s2 : ByteArray) (i3 : Int), loopK (some [0, 2, 4, 5]) (fdc_l0_B k m) (fdc_l0_K k m) n ⟨fT 88 0 [(0, .av (.one (Cell.str s2))), (2, .loc 2 0), (4, .loc 4 0), (5, .av (.one (Cell.int i3)))], fX 88 0 [(2, [Cell.int 0, Cell.int 0, Cell.int 0, .lst true 1 []]), (4, [Cell.int 0, Cell.int 0, Cell.int 0, .lst true 1 []])], []⟩ = fdc_l0 (k + 1) m n s2 i3 := by
  intro n
  induction n with
  | zero => intros; rfl
  | succ n ih =>
    intros
    simp only [fdc_l0, ← ih]
    kernel_rfl
theorem fdc_code (k m : Nat) (s1 : ByteArray) : evC G_fdc fi_fdc (evF G_fdc (k + 1)) m fi_fdc.code none (retK G_fdc fi_fdc) (enter fi_fdc [.one (Cell.str s1)] []) = fdc (k + 1) m s1 := by
  simp only [fdc, ← fdc_l0_eq k m]
  kernel_rfl
theorem fdc_eq (k : Nat) (s1 : ByteArray) : evF G_fdc (k + 2) fid_fdc [.one (Cell.str s1)] [] = fdc (k + 1) (k + 1) s1 :=
  Eq.trans (by kernel_rfl) (fdc_code k (k + 1) s1)
theorem run_fdc_of {s1 : ByteArray} {r : Res} (k : Nat) (h : fdc (k + 1) (k + 1) s1 = some r) : run_fdc [.one (Cell.str s1)] [] = some r := lim_of ((fdc_eq k s1).trans h)
noncomputable def pl_fdz : List (Nat × Run) := [(fid_fdg, run_fdg), (fid_fdc, run_fdc), (fid_fdj, run_fdj), (fid_fda, run_fda)]
noncomputable def G_fdz : Ctx := ctx tyTab fiTab pl_fdz
noncomputable def run_fdz : Run := lim G_fdz fid_fdz
theorem ok_fdz : FnOk Tryz.prog OkT fid_fdz run_fdz := lim_ok (l := pl_fdz) Tryz_mix tyTab_ok fiTab_ok okT (.cons ok_fdg (.cons ok_fdc (.cons ok_fdj (.cons ok_fda .nil)))) fid_fdz
noncomputable def fdz_l1 (k m : Nat) : Nat → Cell → Cell → Int → Int → List Entry → Option Res
  | 0, _, _, _, _, _ => none
  | n + 1, c27, c28, i29, i30, H31 =>
    (lenC c27).bind fun n32 =>
    cond (decide (i29 < (n32 : Int)))
    ((idxA 1 (c27) i29).bind fun c33 =>
    (deref H31 (c33)).bind fun p34 =>
    (cS p34.1 p34.2).bind fun s35 =>
    cond (!(s35.toList == (bs [120]).toList))
    (some ([.agg [Cell.int 0, Cell.int 0, Cell.int 0, .lst true 1 [], Cell.int 0, Cell.bool false]], H31))
    (fdz_l1 k m n (c27) (c28) (IntKind.i64.wrap (i29 + 1)) i30 H31))
    ((idxA 1 (c28) 0).bind fun c36 =>
    (deref H31 (c36)).bind fun p37 =>
    (cI .i64 p37.1 p37.2).bind fun i38 =>
    (idxA 1 (c28) 1).bind fun c39 =>
    (deref H31 (c39)).bind fun p40 =>
    (cI .i64 p40.1 p40.2).bind fun i41 =>
    (idxA 1 (c28) 2).bind fun c42 =>
    (deref H31 (c42)).bind fun p43 =>
    (cI .i64 p43.1 p43.2).bind fun i44 =>
    (callS run_fdj [.one (Cell.int i30), .one (Cell.int 1), .one (Cell.int 2)] H31).bind fun r45 =>
    cond (shapeOk rk_fdj r45)
    ((cB (cellsAt r45 0) 0).bind fun b46 =>
    some ([.agg [Cell.int i38, Cell.int i41, Cell.int i44, .lst true 1 [], Cell.int i30, Cell.bool b46]], H31))
    none)
noncomputable def fdz_l0 (k m : Nat) : Nat → Cell → Cell → Int → List Entry → Option Res
  | 0, _, _, _, _ => none
  | n + 1, c11, c12, i13, H14 =>
    (lenC c11).bind fun n15 =>
    cond (decide (i13 < (n15 : Int)))
    ((idxA 1 (c11) i13).bind fun c16 =>
    (deref H14 (c16)).bind fun p17 =>
    (cS p17.1 p17.2).bind fun s18 =>
    cond (!(s18.toList == (bs [120]).toList))
    ((idxA 1 (c11) i13).bind fun c19 =>
    (deref H14 (c19)).bind fun p20 =>
    (cS p20.1 p20.2).bind fun s21 =>
    (callS run_fda [.one (Cell.str s21), .one (Cell.int 9999)] H14).bind fun r22 =>
    cond (shapeOk rk_fda r22)
    ((cI .i64 (cellsAt r22 0) 0).bind fun i23 =>
    (cB (cellsAt r22 1) 0).bind fun b24 =>
    cond (!b24)
    (some ([.agg [Cell.int 0, Cell.int 0, Cell.int 0, .lst true 1 [], Cell.int 0, Cell.bool false]], H14))
    ((idxA 1 (c12) i13).bind fun c25 =>
    (hStore H14 (c25) [Cell.int i23]).bind fun h26 =>
    fdz_l0 k m n (c11) (c12) (IntKind.i64.wrap (i13 + 1)) h26))
    none)
    (fdz_l1 k m m (c11) (c12) i13 i13 H14))
    (fdz_l1 k m m (c11) (c12) i13 i13 H14)
noncomputable def fdz (k m : Nat) (s1 : ByteArray) : Option Res :=
  (callL run_fdc [.one (Cell.str s1)] []).bind fun r2 =>
  cond (shapeOk rk_fdc r2.1)
  ((cI .i64 (cellsAt r2.1 0) 0).bind fun i3 =>
  (cI .i64 (cellsAt r2.1 0) 1).bind fun i4 =>
  (cI .i64 (cellsAt r2.1 0) 2).bind fun i5 =>
  (cC (cellsAt r2.1 0) 3).bind fun c6 =>
  (cB (cellsAt r2.1 1) 0).bind fun b7 =>
  cond b7
  (some ([.agg [Cell.int i3, Cell.int i4, Cell.int i5, c6, Cell.int 3, Cell.bool true]], r2.2))
  ((callL run_fdg [.one (Cell.str s1), .one (.sc (.int .u8 46))] r2.2).bind fun r8 =>
  cond (shapeOk rk_fdg r8.1)
  ((cC (cellsAt r8.1 0) 0).bind fun c9 =>
  (lenC c9).bind fun n10 =>
  cond (decide ((n10 : Int) > 3))
  (some ([.agg [Cell.int 0, Cell.int 0, Cell.int 0, .lst true 1 [], Cell.int 0, Cell.bool false]], (r8.2 ++ [Entry.mk 1 [[Cell.int 0], [Cell.int 0], [Cell.int 0]] 0 false])))
  (fdz_l0 k m m (c9) ((.vs r8.2.length 1 0 3 0)) 0 (r8.2 ++ [Entry.mk 1 [[Cell.int 0], [Cell.int 0], [Cell.int 0]] 0 false])))
  none))
  none
noncomputable abbrev fdz_l0_B (k m : Nat) : (Ex → Fr → Option Res) → Fr → Option Res := evC G_fdz fi_fdz (evF G_fdz (k + 1)) m (sub [1, 1, 1, 1, 1, 1, 1, 0, 2, 3] fi_fdz.code) none
noncomputable abbrev fdz_l0_K (k m : Nat) : Ex → Fr → Option Res := blockK 0 (seqK (evC G_fdz fi_fdz (evF G_fdz (k + 1)) m (sub [1, 1, 1, 1, 1, 1, 1, 1] fi_fdz.code) none) (retK G_fdz fi_fdz))
noncomputable abbrev fdz_l1_B (k m : Nat) : (Ex → Fr → Option Res) → Fr → Option Res := evC G_fdz fi_fdz (evF G_fdz (k + 1)) m (sub [1, 1, 1, 1, 1, 1, 1, 1, 0, 1, 2, 3] fi_fdz.code) none
noncomputable abbrev fdz_l1_K (k m : Nat) : Ex → Fr → Option Res := blockK 2 (seqK (evC G_fdz fi_fdz (evF G_fdz (k + 1)) m (sub [1, 1, 1, 1, 1, 1, 1, 1, 1] fi_fdz.code) none) (retK G_fdz fi_fdz))
theorem fdz_l1_eq (k m : Nat) : ∀ (n : Nat) (c27 : Cell) (c28 : Cell) (i29 : Int) (i30 : Int) (H31 : List Entry), loopK (some [2, 5, 6, 7, 10]) (fdz_l1_B k m) (fdz_l1_K k m) n ⟨fT 91 0 [(2, .loc 2 0), (5, .av (.one (c27))), (6, .loc 6 0), (7, .av (.one (c28))), (10, .av (.one (Cell.int i29)))], fX 91 0 [(2, [Cell.int 0, Cell.int 0, Cell.int 0, .lst true 1 [], Cell.int 0, Cell.bool false]), (6, [Cell.int 0, Cell.int 0, Cell.int 0, .lst true 1 [], Cell.int i30, Cell.bool false])], H31⟩ = fdz_l1 (k + 1) m n c27 c28 i29 i30 H31 := by
  intro n
  induction n with
  | zero => intros; rfl
  | succ n ih =>
    intros
    simp only [fdz_l1, ← ih]
    kernel_rfl
theorem fdz_l0_eq (k m : Nat) : ∀ (n : Nat) (c11 : Cell) (c12 : Cell) (i13 : Int) (H14 : List Entry), loopK (some [2, 5, 6, 7]) (fdz_l0_B k m) (fdz_l0_K k m) n ⟨fT 91 0 [(2, .loc 2 0), (5, .av (.one (c11))), (6, .loc 6 0), (7, .av (.one (c12)))], fX 91 0 [(2, [Cell.int 0, Cell.int 0, Cell.int 0, .lst true 1 [], Cell.int 0, Cell.bool false]), (6, [Cell.int 0, Cell.int 0, Cell.int 0, .lst true 1 [], Cell.int i13, Cell.bool false])], H14⟩ = fdz_l0 (k + 1) m n c11 c12 i13 H14 := by
  intro n
  induction n with
  | zero => intros; rfl
  | succ n ih =>
    intros
    simp only [fdz_l0, ← fdz_l1_eq k m, ← ih]
    kernel_rfl
theorem fdz_code (k m : Nat) (s1 : ByteArray) : evC G_fdz fi_fdz (evF G_fdz (k + 1)) m fi_fdz.code none (retK G_fdz fi_fdz) (enter fi_fdz [.one (Cell.str s1)] []) = fdz (k + 1) m s1 := by
  simp only [fdz, ← fdz_l0_eq k m]
  kernel_rfl
theorem fdz_eq (k : Nat) (s1 : ByteArray) : evF G_fdz (k + 2) fid_fdz [.one (Cell.str s1)] [] = fdz (k + 1) (k + 1) s1 :=
  Eq.trans (by kernel_rfl) (fdz_code k (k + 1) s1)
theorem run_fdz_of {s1 : ByteArray} {r : Res} (k : Nat) (h : fdz (k + 1) (k + 1) s1 = some r) : run_fdz [.one (Cell.str s1)] [] = some r := lim_of ((fdz_eq k s1).trans h)
noncomputable def pl_fdu : List (Nat × Run) := []
noncomputable def G_fdu : Ctx := ctx tyTab fiTab pl_fdu
noncomputable def run_fdu : Run := lim G_fdu fid_fdu
theorem ok_fdu : FnOk Tryz.prog OkT fid_fdu run_fdu := lim_ok (l := pl_fdu) Tryz_mix tyTab_ok fiTab_ok okT .nil fid_fdu
noncomputable def fdu (k m : Nat) (i1 : Int) (i2 : Int) (i3 : Int) (c4 : Cell) (i5 : Int) (b6 : Bool) : Option Res :=
  some ([.agg [Cell.int 4, Cell.int i1, Cell.int i2, Cell.int i3, c4]], [])
theorem fdu_code (k m : Nat) (i1 : Int) (i2 : Int) (i3 : Int) (c4 : Cell) (i5 : Int) (b6 : Bool) : evC G_fdu fi_fdu (evF G_fdu (k + 1)) m fi_fdu.code none (retK G_fdu fi_fdu) (enter fi_fdu [.agg [Cell.int i1, Cell.int i2, Cell.int i3, c4, Cell.int i5, Cell.bool b6]] []) = fdu (k + 1) m i1 i2 i3 c4 i5 b6 := by
  kernel_rfl
theorem fdu_eq (k : Nat) (i1 : Int) (i2 : Int) (i3 : Int) (c4 : Cell) (i5 : Int) (b6 : Bool) : evF G_fdu (k + 2) fid_fdu [.agg [Cell.int i1, Cell.int i2, Cell.int i3, c4, Cell.int i5, Cell.bool b6]] [] = fdu (k + 1) (k + 1) i1 i2 i3 c4 i5 b6 :=
  Eq.trans (by kernel_rfl) (fdu_code k (k + 1) i1 i2 i3 c4 i5 b6)
theorem run_fdu_of {i1 : Int} {i2 : Int} {i3 : Int} {c4 : Cell} {i5 : Int} {b6 : Bool} {r : Res} (k : Nat) (h : fdu (k + 1) (k + 1) i1 i2 i3 c4 i5 b6 = some r) : run_fdu [.agg [Cell.int i1, Cell.int i2, Cell.int i3, c4, Cell.int i5, Cell.bool b6]] [] = some r := lim_of ((fdu_eq k i1 i2 i3 c4 i5 b6).trans h)
noncomputable def pl_fds : List (Nat × Run) := []
noncomputable def G_fds : Ctx := ctx tyTab fiTab pl_fds
noncomputable def run_fds : Run := lim G_fds fid_fds
theorem ok_fds : FnOk Tryz.prog OkT fid_fds run_fds := lim_ok (l := pl_fds) Tryz_mix tyTab_ok fiTab_ok okT .nil fid_fds
noncomputable def fds (k m : Nat) (i1 : Int) (i2 : Int) (i3 : Int) (c4 : Cell) : Option Res :=
  some ([.agg [Cell.int 1, Cell.int i1, Cell.int i2, Cell.int i3, .lst true 1 [[Cell.str (bs [48])]]]], [])
theorem fds_code (k m : Nat) (i1 : Int) (i2 : Int) (i3 : Int) (c4 : Cell) : evC G_fds fi_fds (evF G_fds (k + 1)) m fi_fds.code none (retK G_fds fi_fds) (enter fi_fds [.agg [Cell.int i1, Cell.int i2, Cell.int i3, c4]] []) = fds (k + 1) m i1 i2 i3 c4 := by
  kernel_rfl
theorem fds_eq (k : Nat) (i1 : Int) (i2 : Int) (i3 : Int) (c4 : Cell) : evF G_fds (k + 2) fid_fds [.agg [Cell.int i1, Cell.int i2, Cell.int i3, c4]] [] = fds (k + 1) (k + 1) i1 i2 i3 c4 :=
  Eq.trans (by kernel_rfl) (fds_code k (k + 1) i1 i2 i3 c4)
theorem run_fds_of {i1 : Int} {i2 : Int} {i3 : Int} {c4 : Cell} {r : Res} (k : Nat) (h : fds (k + 1) (k + 1) i1 i2 i3 c4 = some r) : run_fds [.agg [Cell.int i1, Cell.int i2, Cell.int i3, c4]] [] = some r := lim_of ((fds_eq k i1 i2 i3 c4).trans h)
noncomputable def pl_fdt : List (Nat × Run) := []
noncomputable def G_fdt : Ctx := ctx tyTab fiTab pl_fdt
noncomputable def run_fdt : Run := lim G_fdt fid_fdt
theorem ok_fdt : FnOk Tryz.prog OkT fid_fdt run_fdt := lim_ok (l := pl_fdt) Tryz_mix tyTab_ok fiTab_ok okT .nil fid_fdt
noncomputable def fdt (k m : Nat) (i1 : Int) (i2 : Int) (i3 : Int) (c4 : Cell) (i5 : Int) (b6 : Bool) : Option Res :=
  cond (i1 != 0)
  (some ([.agg [Cell.int (IntKind.i64.wrap (i1 + 1)), Cell.int 0, Cell.int 0, .lst true 1 []]], []))
  (cond (i5 == 1)
  (some ([.agg [Cell.int (IntKind.i64.wrap (i1 + 1)), Cell.int 0, Cell.int 0, .lst true 1 []]], []))
  (cond (i2 != 0)
  (some ([.agg [Cell.int 0, Cell.int (IntKind.i64.wrap (i2 + 1)), Cell.int 0, .lst true 1 []]], []))
  (cond (i5 == 2)
  (some ([.agg [Cell.int 0, Cell.int (IntKind.i64.wrap (i2 + 1)), Cell.int 0, .lst true 1 []]], []))
  (some ([.agg [Cell.int 0, Cell.int 0, Cell.int (IntKind.i64.wrap (i3 + 1)), .lst true 1 []]], [])))))
theorem fdt_code (k m : Nat) (i1 : Int) (i2 : Int) (i3 : Int) (c4 : Cell) (i5 : Int) (b6 : Bool) : evC G_fdt fi_fdt (evF G_fdt (k + 1)) m fi_fdt.code none (retK G_fdt fi_fdt) (enter fi_fdt [.agg [Cell.int i1, Cell.int i2, Cell.int i3, c4, Cell.int i5, Cell.bool b6]] []) = fdt (k + 1) m i1 i2 i3 c4 i5 b6 := by
  kernel_rfl
theorem fdt_eq (k : Nat) (i1 : Int) (i2 : Int) (i3 : Int) (c4 : Cell) (i5 : Int) (b6 : Bool) : evF G_fdt (k + 2) fid_fdt [.agg [Cell.int i1, Cell.int i2, Cell.int i3, c4, Cell.int i5, Cell.bool b6]] [] = fdt (k + 1) (k + 1) i1 i2 i3 c4 i5 b6 :=
  Eq.trans (by kernel_rfl) (fdt_code k (k + 1) i1 i2 i3 c4 i5 b6)
theorem run_fdt_of {i1 : Int} {i2 : Int} {i3 : Int} {c4 : Cell} {i5 : Int} {b6 : Bool} {r : Res} (k : Nat) (h : fdt (k + 1) (k + 1) i1 i2 i3 c4 i5 b6 = some r) : run_fdt [.agg [Cell.int i1, Cell.int i2, Cell.int i3, c4, Cell.int i5, Cell.bool b6]] [] = some r := lim_of ((fdt_eq k i1 i2 i3 c4 i5 b6).trans h)
noncomputable def pl_feb : List (Nat × Run) := []
noncomputable def G_feb : Ctx := ctx tyTab fiTab pl_feb
noncomputable def run_feb : Run := lim G_feb fid_feb
theorem ok_feb : FnOk Tryz.prog OkT fid_feb run_feb := lim_ok (l := pl_feb) Tryz_mix tyTab_ok fiTab_ok okT .nil fid_feb
noncomputable def feb (k m : Nat) (i1 : Int) (i2 : Int) (i3 : Int) (c4 : Cell) (i5 : Int) (b6 : Bool) : Option Res :=
  cond (i5 == 1)
  (some ([.agg [Cell.int (IntKind.i64.wrap (i1 + 1)), Cell.int 0, Cell.int 0, .lst true 1 []]], []))
  (some ([.agg [Cell.int i1, Cell.int (IntKind.i64.wrap (i2 + 1)), Cell.int 0, .lst true 1 []]], []))
theorem feb_code (k m : Nat) (i1 : Int) (i2 : Int) (i3 : Int) (c4 : Cell) (i5 : Int) (b6 : Bool) : evC G_feb fi_feb (evF G_feb (k + 1)) m fi_feb.code none (retK G_feb fi_feb) (enter fi_feb [.agg [Cell.int i1, Cell.int i2, Cell.int i3, c4, Cell.int i5, Cell.bool b6]] []) = feb (k + 1) m i1 i2 i3 c4 i5 b6 := by
  kernel_rfl
theorem feb_eq (k : Nat) (i1 : Int) (i2 : Int) (i3 : Int) (c4 : Cell) (i5 : Int) (b6 : Bool) : evF G_feb (k + 2) fid_feb [.agg [Cell.int i1, Cell.int i2, Cell.int i3, c4, Cell.int i5, Cell.bool b6]] [] = feb (k + 1) (k + 1) i1 i2 i3 c4 i5 b6 :=
  Eq.trans (by kernel_rfl) (feb_code k (k + 1) i1 i2 i3 c4 i5 b6)
theorem run_feb_of {i1 : Int} {i2 : Int} {i3 : Int} {c4 : Cell} {i5 : Int} {b6 : Bool} {r : Res} (k : Nat) (h : feb (k + 1) (k + 1) i1 i2 i3 c4 i5 b6 = some r) : run_feb [.agg [Cell.int i1, Cell.int i2, Cell.int i3, c4, Cell.int i5, Cell.bool b6]] [] = some r := lim_of ((feb_eq k i1 i2 i3 c4 i5 b6).trans h)
noncomputable def pl_fdy : List (Nat × Run) := []
noncomputable def G_fdy : Ctx := ctx tyTab fiTab pl_fdy
noncomputable def run_fdy : Run := lim G_fdy fid_fdy
theorem ok_fdy : FnOk Tryz.prog OkT fid_fdy run_fdy := lim_ok (l := pl_fdy) Tryz_mix tyTab_ok fiTab_ok okT .nil fid_fdy
noncomputable def fdy (k m : Nat) (i1 : Int) (i2 : Int) (i3 : Int) (c4 : Cell) (i5 : Int) (b6 : Bool) : Option Res :=
  cond (i5 == 1)
  (some ([.agg [Cell.int (IntKind.i64.wrap (i1 + 1)), Cell.int 0, Cell.int 0, .lst true 1 []]], []))
  (some ([.agg [Cell.int i1, Cell.int (IntKind.i64.wrap (i2 + 1)), Cell.int 0, .lst true 1 []]], []))
theorem fdy_code (k m : Nat) (i1 : Int) (i2 : Int) (i3 : Int) (c4 : Cell) (i5 : Int) (b6 : Bool) : evC G_fdy fi_fdy (evF G_fdy (k + 1)) m fi_fdy.code none (retK G_fdy fi_fdy) (enter fi_fdy [.agg [Cell.int i1, Cell.int i2, Cell.int i3, c4, Cell.int i5, Cell.bool b6]] []) = fdy (k + 1) m i1 i2 i3 c4 i5 b6 := by
  kernel_rfl
theorem fdy_eq (k : Nat) (i1 : Int) (i2 : Int) (i3 : Int) (c4 : Cell) (i5 : Int) (b6 : Bool) : evF G_fdy (k + 2) fid_fdy [.agg [Cell.int i1, Cell.int i2, Cell.int i3, c4, Cell.int i5, Cell.bool b6]] [] = fdy (k + 1) (k + 1) i1 i2 i3 c4 i5 b6 :=
  Eq.trans (by kernel_rfl) (fdy_code k (k + 1) i1 i2 i3 c4 i5 b6)
theorem run_fdy_of {i1 : Int} {i2 : Int} {i3 : Int} {c4 : Cell} {i5 : Int} {b6 : Bool} {r : Res} (k : Nat) (h : fdy (k + 1) (k + 1) i1 i2 i3 c4 i5 b6 = some r) : run_fdy [.agg [Cell.int i1, Cell.int i2, Cell.int i3, c4, Cell.int i5, Cell.bool b6]] [] = some r := lim_of ((fdy_eq k i1 i2 i3 c4 i5 b6).trans h)
noncomputable def pl_fdx : List (Nat × Run) := [(fid_fdu, run_fdu), (fid_fds, run_fds), (fid_fdt, run_fdt), (fid_feb, run_feb), (fid_fdy, run_fdy)]
noncomputable def G_fdx : Ctx := ctx tyTab fiTab pl_fdx
noncomputable def run_fdx : Run := lim G_fdx fid_fdx
theorem ok_fdx : FnOk Tryz.prog OkT fid_fdx run_fdx := lim_ok (l := pl_fdx) Tryz_mix tyTab_ok fiTab_ok okT (.cons ok_fdu (.cons ok_fds (.cons ok_fdt (.cons ok_feb (.cons ok_fdy .nil))))) fid_fdx
noncomputable def fdx (k m : Nat) (s1 : ByteArray) (i2 : Int) (i3 : Int) (i4 : Int) (c5 : Cell) (i6 : Int) (b7 : Bool) : Option Res :=
  cond (s1.toList == (bs [94]).toList)
  ((callL run_fdu [.agg [Cell.int i2, Cell.int i3, Cell.int i4, c5, Cell.int i6, Cell.bool b7]] []).bind fun r8 =>
  cond (shapeOk rk_fdu r8.1)
  ((cI .i64 (cellsAt r8.1 0) 0).bind fun i9 =>
  (cI .i64 (cellsAt r8.1 0) 1).bind fun i10 =>
  (cI .i64 (cellsAt r8.1 0) 2).bind fun i11 =>
  (cI .i64 (cellsAt r8.1 0) 3).bind fun i12 =>
  (cC (cellsAt r8.1 0) 4).bind fun c13 =>
  emptyK r8.2
  ((callL run_fdt [.agg [Cell.int i2, Cell.int i3, Cell.int i4, c5, Cell.int i6, Cell.bool b7]] []).bind fun r14 =>
  cond (shapeOk rk_fdt r14.1)
  ((cI .i64 (cellsAt r14.1 0) 0).bind fun i15 =>
  (cI .i64 (cellsAt r14.1 0) 1).bind fun i16 =>
  (cI .i64 (cellsAt r14.1 0) 2).bind fun i17 =>
  (cC (cellsAt r14.1 0) 3).bind fun c18 =>
  (callL run_fds [.agg [Cell.int i15, Cell.int i16, Cell.int i17, c18]] r14.2).bind fun r19 =>
  cond (shapeOk rk_fds r19.1)
  ((cI .i64 (cellsAt r19.1 0) 0).bind fun i20 =>
  (cI .i64 (cellsAt r19.1 0) 1).bind fun i21 =>
  (cI .i64 (cellsAt r19.1 0) 2).bind fun i22 =>
  (cI .i64 (cellsAt r19.1 0) 3).bind fun i23 =>
  (cC (cellsAt r19.1 0) 4).bind fun c24 =>
  restK [Cell.int i9, Cell.int i10, Cell.int i11, Cell.int i12, c13, Cell.int i20, Cell.int i21, Cell.int i22, Cell.int i23, c24] fun d25 =>
  some ([.one ((.lst true 5 (chunks 5 2 d25)))], r19.2))
  none)
  none))
  none)
  (cond (s1.toList == (bs [126]).toList)
  ((callL run_fdu [.agg [Cell.int i2, Cell.int i3, Cell.int i4, c5, Cell.int i6, Cell.bool b7]] []).bind fun r26 =>
  cond (shapeOk rk_fdu r26.1)
  ((cI .i64 (cellsAt r26.1 0) 0).bind fun i27 =>
  (cI .i64 (cellsAt r26.1 0) 1).bind fun i28 =>
  (cI .i64 (cellsAt r26.1 0) 2).bind fun i29 =>
  (cI .i64 (cellsAt r26.1 0) 3).bind fun i30 =>
  (cC (cellsAt r26.1 0) 4).bind fun c31 =>
  emptyK r26.2
  ((callL run_feb [.agg [Cell.int i2, Cell.int i3, Cell.int i4, c5, Cell.int i6, Cell.bool b7]] []).bind fun r32 =>
  cond (shapeOk rk_feb r32.1)
  ((cI .i64 (cellsAt r32.1 0) 0).bind fun i33 =>
  (cI .i64 (cellsAt r32.1 0) 1).bind fun i34 =>
  (cI .i64 (cellsAt r32.1 0) 2).bind fun i35 =>
  (cC (cellsAt r32.1 0) 3).bind fun c36 =>
  (callL run_fds [.agg [Cell.int i33, Cell.int i34, Cell.int i35, c36]] r32.2).bind fun r37 =>
  cond (shapeOk rk_fds r37.1)
  ((cI .i64 (cellsAt r37.1 0) 0).bind fun i38 =>
  (cI .i64 (cellsAt r37.1 0) 1).bind fun i39 =>
  (cI .i64 (cellsAt r37.1 0) 2).bind fun i40 =>
  (cI .i64 (cellsAt r37.1 0) 3).bind fun i41 =>
  (cC (cellsAt r37.1 0) 4).bind fun c42 =>
  restK [Cell.int i27, Cell.int i28, Cell.int i29, Cell.int i30, c31, Cell.int i38, Cell.int i39, Cell.int i40, Cell.int i41, c42] fun d43 =>
  some ([.one ((.lst true 5 (chunks 5 2 d43)))], r37.2))
  none)
  none))
  none)
  (cond (s1.toList == (bs [62, 61]).toList)
  ((callL run_fdu [.agg [Cell.int i2, Cell.int i3, Cell.int i4, c5, Cell.int i6, Cell.bool b7]] []).bind fun r44 =>
  cond (shapeOk rk_fdu r44.1)
  ((cI .i64 (cellsAt r44.1 0) 0).bind fun i45 =>
  (cI .i64 (cellsAt r44.1 0) 1).bind fun i46 =>
  (cI .i64 (cellsAt r44.1 0) 2).bind fun i47 =>
  (cI .i64 (cellsAt r44.1 0) 3).bind fun i48 =>
  (cC (cellsAt r44.1 0) 4).bind fun c49 =>
  restK [Cell.int i45, Cell.int i46, Cell.int i47, Cell.int i48, c49] fun d50 =>
  some ([.one ((.lst true 5 (chunks 5 1 d50)))], r44.2))
  none)
  (cond (s1.toList == (bs [60]).toList)
  (restK [Cell.int 1, Cell.int i2, Cell.int i3, Cell.int i4, c5] fun d51 =>
  some ([.one ((.lst true 5 (chunks 5 1 d51)))], []))
  (cond (s1.toList == (bs [62]).toList)
  (cond (i6 == 3)
  (restK [Cell.int 3, Cell.int i2, Cell.int i3, Cell.int i4, c5] fun d52 =>
  some ([.one ((.lst true 5 (chunks 5 1 d52)))], []))
  (cond (s1.toList == (bs [62]).toList)
  ((callL run_fdy [.agg [Cell.int i2, Cell.int i3, Cell.int i4, c5, Cell.int i6, Cell.bool b7]] []).bind fun r53 =>
  cond (shapeOk rk_fdy r53.1)
  ((cI .i64 (cellsAt r53.1 0) 0).bind fun i54 =>
  (cI .i64 (cellsAt r53.1 0) 1).bind fun i55 =>
  (cI .i64 (cellsAt r53.1 0) 2).bind fun i56 =>
  (cC (cellsAt r53.1 0) 3).bind fun c57 =>
  restK [Cell.int 4, Cell.int i54, Cell.int i55, Cell.int i56, c57] fun d58 =>
  some ([.one ((.lst true 5 (chunks 5 1 d58)))], r53.2))
  none)
  (cond (s1.toList == (bs [60, 61]).toList)
  (cond (i6 == 3)
  (restK [Cell.int 2, Cell.int i2, Cell.int i3, Cell.int i4, c5] fun d59 =>
  some ([.one ((.lst true 5 (chunks 5 1 d59)))], []))
  (cond (s1.toList == (bs [60, 61]).toList)
  ((callL run_fdy [.agg [Cell.int i2, Cell.int i3, Cell.int i4, c5, Cell.int i6, Cell.bool b7]] []).bind fun r60 =>
  cond (shapeOk rk_fdy r60.1)
  ((cI .i64 (cellsAt r60.1 0) 0).bind fun i61 =>
  (cI .i64 (cellsAt r60.1 0) 1).bind fun i62 =>
  (cI .i64 (cellsAt r60.1 0) 2).bind fun i63 =>
  (cC (cellsAt r60.1 0) 3).bind fun c64 =>
  (callL run_fds [.agg [Cell.int i61, Cell.int i62, Cell.int i63, c64]] r60.2).bind fun r65 =>
  cond (shapeOk rk_fds r65.1)
  ((cI .i64 (cellsAt r65.1 0) 0).bind fun i66 =>
  (cI .i64 (cellsAt r65.1 0) 1).bind fun i67 =>
  (cI .i64 (cellsAt r65.1 0) 2).bind fun i68 =>
  (cI .i64 (cellsAt r65.1 0) 3).bind fun i69 =>
  (cC (cellsAt r65.1 0) 4).bind fun c70 =>
  restK [Cell.int i66, Cell.int i67, Cell.int i68, Cell.int i69, c70] fun d71 =>
  some ([.one ((.lst true 5 (chunks 5 1 d71)))], r65.2))
  none)
  none)
  (cond (i6 == 3)
  (restK [Cell.int 0, Cell.int i2, Cell.int i3, Cell.int i4, c5] fun d72 =>
  some ([.one ((.lst true 5 (chunks 5 1 d72)))], []))
  ((callL run_fdu [.agg [Cell.int i2, Cell.int i3, Cell.int i4, c5, Cell.int i6, Cell.bool b7]] []).bind fun r73 =>
  cond (shapeOk rk_fdu r73.1)
  ((cI .i64 (cellsAt r73.1 0) 0).bind fun i74 =>
  (cI .i64 (cellsAt r73.1 0) 1).bind fun i75 =>
  (cI .i64 (cellsAt r73.1 0) 2).bind fun i76 =>
  (cI .i64 (cellsAt r73.1 0) 3).bind fun i77 =>
  (cC (cellsAt r73.1 0) 4).bind fun c78 =>
  emptyK r73.2
  ((callL run_fdy [.agg [Cell.int i2, Cell.int i3, Cell.int i4, c5, Cell.int i6, Cell.bool b7]] []).bind fun r79 =>
  cond (shapeOk rk_fdy r79.1)
  ((cI .i64 (cellsAt r79.1 0) 0).bind fun i80 =>
  (cI .i64 (cellsAt r79.1 0) 1).bind fun i81 =>
  (cI .i64 (cellsAt r79.1 0) 2).bind fun i82 =>
  (cC (cellsAt r79.1 0) 3).bind fun c83 =>
  (callL run_fds [.agg [Cell.int i80, Cell.int i81, Cell.int i82, c83]] r79.2).bind fun r84 =>
  cond (shapeOk rk_fds r84.1)
  ((cI .i64 (cellsAt r84.1 0) 0).bind fun i85 =>
  (cI .i64 (cellsAt r84.1 0) 1).bind fun i86 =>
  (cI .i64 (cellsAt r84.1 0) 2).bind fun i87 =>
  (cI .i64 (cellsAt r84.1 0) 3).bind fun i88 =>
  (cC (cellsAt r84.1 0) 4).bind fun c89 =>
  restK [Cell.int i74, Cell.int i75, Cell.int i76, Cell.int i77, c78, Cell.int i85, Cell.int i86, Cell.int i87, Cell.int i88, c89] fun d90 =>
  some ([.one ((.lst true 5 (chunks 5 2 d90)))], r84.2))
  none)
  none))
  none))))
  (cond (s1.toList == (bs [60, 61]).toList)
  ((callL run_fdy [.agg [Cell.int i2, Cell.int i3, Cell.int i4, c5, Cell.int i6, Cell.bool b7]] []).bind fun r91 =>
  cond (shapeOk rk_fdy r91.1)
  ((cI .i64 (cellsAt r91.1 0) 0).bind fun i92 =>
  (cI .i64 (cellsAt r91.1 0) 1).bind fun i93 =>
  (cI .i64 (cellsAt r91.1 0) 2).bind fun i94 =>
  (cC (cellsAt r91.1 0) 3).bind fun c95 =>
  (callL run_fds [.agg [Cell.int i92, Cell.int i93, Cell.int i94, c95]] r91.2).bind fun r96 =>
  cond (shapeOk rk_fds r96.1)
  ((cI .i64 (cellsAt r96.1 0) 0).bind fun i97 =>
  (cI .i64 (cellsAt r96.1 0) 1).bind fun i98 =>
  (cI .i64 (cellsAt r96.1 0) 2).bind fun i99 =>
  (cI .i64 (cellsAt r96.1 0) 3).bind fun i100 =>
  (cC (cellsAt r96.1 0) 4).bind fun c101 =>
  restK [Cell.int i97, Cell.int i98, Cell.int i99, Cell.int i100, c101] fun d102 =>
  some ([.one ((.lst true 5 (chunks 5 1 d102)))], r96.2))
  none)
  none)
  (cond (i6 == 3)
  (restK [Cell.int 0, Cell.int i2, Cell.int i3, Cell.int i4, c5] fun d103 =>
  some ([.one ((.lst true 5 (chunks 5 1 d103)))], []))
  ((callL run_fdu [.agg [Cell.int i2, Cell.int i3, Cell.int i4, c5, Cell.int i6, Cell.bool b7]] []).bind fun r104 =>
  cond (shapeOk rk_fdu r104.1)
  ((cI .i64 (cellsAt r104.1 0) 0).bind fun i105 =>
  (cI .i64 (cellsAt r104.1 0) 1).bind fun i106 =>
  (cI .i64 (cellsAt r104.1 0) 2).bind fun i107 =>
  (cI .i64 (cellsAt r104.1 0) 3).bind fun i108 =>
  (cC (cellsAt r104.1 0) 4).bind fun c109 =>
  emptyK r104.2
  ((callL run_fdy [.agg [Cell.int i2, Cell.int i3, Cell.int i4, c5, Cell.int i6, Cell.bool b7]] []).bind fun r110 =>
  cond (shapeOk rk_fdy r110.1)
  ((cI .i64 (cellsAt r110.1 0) 0).bind fun i111 =>
  (cI .i64 (cellsAt r110.1 0) 1).bind fun i112 =>
  (cI .i64 (cellsAt r110.1 0) 2).bind fun i113 =>
  (cC (cellsAt r110.1 0) 3).bind fun c114 =>
  (callL run_fds [.agg [Cell.int i111, Cell.int i112, Cell.int i113, c114]] r110.2).bind fun r115 =>
  cond (shapeOk rk_fds r115.1)
  ((cI .i64 (cellsAt r115.1 0) 0).bind fun i116 =>
  (cI .i64 (cellsAt r115.1 0) 1).bind fun i117 =>
  (cI .i64 (cellsAt r115.1 0) 2).bind fun i118 =>
  (cI .i64 (cellsAt r115.1 0) 3).bind fun i119 =>
  (cC (cellsAt r115.1 0) 4).bind fun c120 =>
  restK [Cell.int i105, Cell.int i106, Cell.int i107, Cell.int i108, c109, Cell.int i116, Cell.int i117, Cell.int i118, Cell.int i119, c120] fun d121 =>
  some ([.one ((.lst true 5 (chunks 5 2 d121)))], r115.2))
  none)
  none))
  none))))))
  (cond (s1.toList == (bs [62]).toList)
  ((callL run_fdy [.agg [Cell.int i2, Cell.int i3, Cell.int i4, c5, Cell.int i6, Cell.bool b7]] []).bind fun r122 =>
  cond (shapeOk rk_fdy r122.1)
  ((cI .i64 (cellsAt r122.1 0) 0).bind fun i123 =>
  (cI .i64 (cellsAt r122.1 0) 1).bind fun i124 =>
  (cI .i64 (cellsAt r122.1 0) 2).bind fun i125 =>
  (cC (cellsAt r122.1 0) 3).bind fun c126 =>
  restK [Cell.int 4, Cell.int i123, Cell.int i124, Cell.int i125, c126] fun d127 =>
  some ([.one ((.lst true 5 (chunks 5 1 d127)))], r122.2))
  none)
  (cond (s1.toList == (bs [60, 61]).toList)
  (cond (i6 == 3)
  (restK [Cell.int 2, Cell.int i2, Cell.int i3, Cell.int i4, c5] fun d128 =>
  some ([.one ((.lst true 5 (chunks 5 1 d128)))], []))
  (cond (s1.toList == (bs [60, 61]).toList)
  ((callL run_fdy [.agg [Cell.int i2, Cell.int i3, Cell.int i4, c5, Cell.int i6, Cell.bool b7]] []).bind fun r129 =>
  cond (shapeOk rk_fdy r129.1)
  ((cI .i64 (cellsAt r129.1 0) 0).bind fun i130 =>
  (cI .i64 (cellsAt r129.1 0) 1).bind fun i131 =>
  (cI .i64 (cellsAt r129.1 0) 2).bind fun i132 =>
  (cC (cellsAt r129.1 0) 3).bind fun c133 =>
  (callL run_fds [.agg [Cell.int i130, Cell.int i131, Cell.int i132, c133]] r129.2).bind fun r134 =>
  cond (shapeOk rk_fds r134.1)
  ((cI .i64 (cellsAt r134.1 0) 0).bind fun i135 =>
  (cI .i64 (cellsAt r134.1 0) 1).bind fun i136 =>
  (cI .i64 (cellsAt r134.1 0) 2).bind fun i137 =>
  (cI .i64 (cellsAt r134.1 0) 3).bind fun i138 =>
  (cC (cellsAt r134.1 0) 4).bind fun c139 =>
  restK [Cell.int i135, Cell.int i136, Cell.int i137, Cell.int i138, c139] fun d140 =>
  some ([.one ((.lst true 5 (chunks 5 1 d140)))], r134.2))
  none)
  none)
  (cond (i6 == 3)
  (restK [Cell.int 0, Cell.int i2, Cell.int i3, Cell.int i4, c5] fun d141 =>
  some ([.one ((.lst true 5 (chunks 5 1 d141)))], []))
  ((callL run_fdu [.agg [Cell.int i2, Cell.int i3, Cell.int i4, c5, Cell.int i6, Cell.bool b7]] []).bind fun r142 =>
  cond (shapeOk rk_fdu r142.1)
  ((cI .i64 (cellsAt r142.1 0) 0).bind fun i143 =>
  (cI .i64 (cellsAt r142.1 0) 1).bind fun i144 =>
  (cI .i64 (cellsAt r142.1 0) 2).bind fun i145 =>
  (cI .i64 (cellsAt r142.1 0) 3).bind fun i146 =>
  (cC (cellsAt r142.1 0) 4).bind fun c147 =>
  emptyK r142.2
  ((callL run_fdy [.agg [Cell.int i2, Cell.int i3, Cell.int i4, c5, Cell.int i6, Cell.bool b7]] []).bind fun r148 =>
  cond (shapeOk rk_fdy r148.1)
  ((cI .i64 (cellsAt r148.1 0) 0).bind fun i149 =>
  (cI .i64 (cellsAt r148.1 0) 1).bind fun i150 =>
  (cI .i64 (cellsAt r148.1 0) 2).bind fun i151 =>
  (cC (cellsAt r148.1 0) 3).bind fun c152 =>
  (callL run_fds [.agg [Cell.int i149, Cell.int i150, Cell.int i151, c152]] r148.2).bind fun r153 =>
  cond (shapeOk rk_fds r153.1)
  ((cI .i64 (cellsAt r153.1 0) 0).bind fun i154 =>
  (cI .i64 (cellsAt r153.1 0) 1).bind fun i155 =>
  (cI .i64 (cellsAt r153.1 0) 2).bind fun i156 =>
  (cI .i64 (cellsAt r153.1 0) 3).bind fun i157 =>
  (cC (cellsAt r153.1 0) 4).bind fun c158 =>
  restK [Cell.int i143, Cell.int i144, Cell.int i145, Cell.int i146, c147, Cell.int i154, Cell.int i155, Cell.int i156, Cell.int i157, c158] fun d159 =>
  some ([.one ((.lst true 5 (chunks 5 2 d159)))], r153.2))
  none)
  none))
  none))))
  (cond (s1.toList == (bs [60, 61]).toList)
  ((callL run_fdy [.agg [Cell.int i2, Cell.int i3, Cell.int i4, c5, Cell.int i6, Cell.bool b7]] []).bind fun r160 =>
  cond (shapeOk rk_fdy r160.1)
  ((cI .i64 (cellsAt r160.1 0) 0).bind fun i161 =>
  (cI .i64 (cellsAt r160.1 0) 1).bind fun i162 =>
  (cI .i64 (cellsAt r160.1 0) 2).bind fun i163 =>
  (cC (cellsAt r160.1 0) 3).bind fun c164 =>
  (callL run_fds [.agg [Cell.int i161, Cell.int i162, Cell.int i163, c164]] r160.2).bind fun r165 =>
  cond (shapeOk rk_fds r165.1)
  ((cI .i64 (cellsAt r165.1 0) 0).bind fun i166 =>
  (cI .i64 (cellsAt r165.1 0) 1).bind fun i167 =>
  (cI .i64 (cellsAt r165.1 0) 2).bind fun i168 =>
  (cI .i64 (cellsAt r165.1 0) 3).bind fun i169 =>
  (cC (cellsAt r165.1 0) 4).bind fun c170 =>
  restK [Cell.int i166, Cell.int i167, Cell.int i168, Cell.int i169, c170] fun d171 =>
  some ([.one ((.lst true 5 (chunks 5 1 d171)))], r165.2))
  none)
  none)
  (cond (i6 == 3)
  (restK [Cell.int 0, Cell.int i2, Cell.int i3, Cell.int i4, c5] fun d172 =>
  some ([.one ((.lst true 5 (chunks 5 1 d172)))], []))
  ((callL run_fdu [.agg [Cell.int i2, Cell.int i3, Cell.int i4, c5, Cell.int i6, Cell.bool b7]] []).bind fun r173 =>
  cond (shapeOk rk_fdu r173.1)
  ((cI .i64 (cellsAt r173.1 0) 0).bind fun i174 =>
  (cI .i64 (cellsAt r173.1 0) 1).bind fun i175 =>
  (cI .i64 (cellsAt r173.1 0) 2).bind fun i176 =>
  (cI .i64 (cellsAt r173.1 0) 3).bind fun i177 =>
  (cC (cellsAt r173.1 0) 4).bind fun c178 =>
  emptyK r173.2
  ((callL run_fdy [.agg [Cell.int i2, Cell.int i3, Cell.int i4, c5, Cell.int i6, Cell.bool b7]] []).bind fun r179 =>
  cond (shapeOk rk_fdy r179.1)
  ((cI .i64 (cellsAt r179.1 0) 0).bind fun i180 =>
  (cI .i64 (cellsAt r179.1 0) 1).bind fun i181 =>
  (cI .i64 (cellsAt r179.1 0) 2).bind fun i182 =>
  (cC (cellsAt r179.1 0) 3).bind fun c183 =>
  (callL run_fds [.agg [Cell.int i180, Cell.int i181, Cell.int i182, c183]] r179.2).bind fun r184 =>
  cond (shapeOk rk_fds r184.1)
  ((cI .i64 (cellsAt r184.1 0) 0).bind fun i185 =>
  (cI .i64 (cellsAt r184.1 0) 1).bind fun i186 =>
  (cI .i64 (cellsAt r184.1 0) 2).bind fun i187 =>
  (cI .i64 (cellsAt r184.1 0) 3).bind fun i188 =>
  (cC (cellsAt r184.1 0) 4).bind fun c189 =>
  restK [Cell.int i174, Cell.int i175, Cell.int i176, Cell.int i177, c178, Cell.int i185, Cell.int i186, Cell.int i187, Cell.int i188, c189] fun d190 =>
  some ([.one ((.lst true 5 (chunks 5 2 d190)))], r184.2))
  none)
  none))
  none)))))))))
theorem fdx_code (k m : Nat) (s1 : ByteArray) (i2 : Int) (i3 : Int) (i4 : Int) (c5 : Cell) (i6 : Int) (b7 : Bool) : evC G_fdx fi_fdx (evF G_fdx (k + 1)) m fi_fdx.code none (retK G_fdx fi_fdx) (enter fi_fdx [.one (Cell.str s1), .agg [Cell.int i2, Cell.int i3, Cell.int i4, c5, Cell.int i6, Cell.bool b7]] []) = fdx (k + 1) m s1 i2 i3 i4 c5 i6 b7 := by
  kernel_rfl
theorem fdx_eq (k : Nat) (s1 : ByteArray) (i2 : Int) (i3 : Int) (i4 : Int) (c5 : Cell) (i6 : Int) (b7 : Bool) : evF G_fdx (k + 2) fid_fdx [.one (Cell.str s1), .agg [Cell.int i2, Cell.int i3, Cell.int i4, c5, Cell.int i6, Cell.bool b7]] [] = fdx (k + 1) (k + 1) s1 i2 i3 i4 c5 i6 b7 :=
  Eq.trans (by kernel_rfl) (fdx_code k (k + 1) s1 i2 i3 i4 c5 i6 b7)
theorem run_fdx_of {s1 : ByteArray} {i2 : Int} {i3 : Int} {i4 : Int} {c5 : Cell} {i6 : Int} {b7 : Bool} {r : Res} (k : Nat) (h : fdx (k + 1) (k + 1) s1 i2 i3 i4 c5 i6 b7 = some r) : run_fdx [.one (Cell.str s1), .agg [Cell.int i2, Cell.int i3, Cell.int i4, c5, Cell.int i6, Cell.bool b7]] [] = some r := lim_of ((fdx_eq k s1 i2 i3 i4 c5 i6 b7).trans h)
noncomputable def pl_fed : List (Nat × Run) := [(fid_fdz, run_fdz), (fid_fdx, run_fdx)]
noncomputable def G_fed : Ctx := ctx tyTab fiTab pl_fed
noncomputable def run_fed : Run := lim G_fed fid_fed
theorem ok_fed : FnOk Tryz.prog OkT fid_fed run_fed := lim_ok (l := pl_fed) Tryz_mix tyTab_ok fiTab_ok okT (.cons ok_fdz (.cons ok_fdx .nil)) fid_fed
noncomputable def fed_l0 (k m : Nat) : Nat → ByteArray → Int → Option Res
  | 0, _, _ => none
  | n + 1, s2, i3 =>
    cond (decide (i3 < 8))
    ((idxA 1 (.lst true 1 [[Cell.str (bs [94])], [Cell.str (bs [126])], [Cell.str (bs [62, 61])], [Cell.str (bs [62])], [Cell.str (bs [60, 61])], [Cell.str (bs [60])], [Cell.str (bs [61])], [Cell.str (bs [])]]) i3).bind fun c4 =>
    (deref [] (c4)).bind fun p5 =>
    (cS p5.1 p5.2).bind fun s6 =>
    cond (decide ((s2.size : Int) ≥ (s6.size : Int)))
    ((subS s2 0 (s6.size : Int)).bind fun s7 =>
    (idxA 1 (.lst true 1 [[Cell.str (bs [94])], [Cell.str (bs [126])], [Cell.str (bs [62, 61])], [Cell.str (bs [62])], [Cell.str (bs [60, 61])], [Cell.str (bs [60])], [Cell.str (bs [61])], [Cell.str (bs [])]]) i3).bind fun c8 =>
    (deref [] (c8)).bind fun p9 =>
    (cS p9.1 p9.2).bind fun s10 =>
    cond (s7.toList == s10.toList)
    ((subS s2 (s6.size : Int) (s2.size : Int)).bind fun s11 =>
    (callL run_fdz [.one (Cell.str s11)] []).bind fun r12 =>
    cond (shapeOk rk_fdz r12.1)
    ((cI .i64 (cellsAt r12.1 0) 0).bind fun i13 =>
    (cI .i64 (cellsAt r12.1 0) 1).bind fun i14 =>
    (cI .i64 (cellsAt r12.1 0) 2).bind fun i15 =>
    (cC (cellsAt r12.1 0) 3).bind fun c16 =>
    (cI .i64 (cellsAt r12.1 0) 4).bind fun i17 =>
    (cB (cellsAt r12.1 0) 5).bind fun b18 =>
    cond (!b18)
    (some ([.one (.lst true 5 []), .one (Cell.bool false)], r12.2))
    ((idxA 1 (.lst true 1 [[Cell.str (bs [94])], [Cell.str (bs [126])], [Cell.str (bs [62, 61])], [Cell.str (bs [62])], [Cell.str (bs [60, 61])], [Cell.str (bs [60])], [Cell.str (bs [61])], [Cell.str (bs [])]]) i3).bind fun c19 =>
    (deref r12.2 (c19)).bind fun p20 =>
    (cS p20.1 p20.2).bind fun s21 =>
    (callL run_fdx [.one (Cell.str s21), .agg [Cell.int i13, Cell.int i14, Cell.int i15, c16, Cell.int i17, Cell.bool b18]] r12.2).bind fun r22 =>
    cond (shapeOk rk_fdx r22.1)
    ((cC (cellsAt r22.1 0) 0).bind fun c23 =>
    some ([.one (c23), .one (Cell.bool true)], r22.2))
    none))
    none)
    (fed_l0 k m n s2 (IntKind.i64.wrap (i3 + 1))))
    (fed_l0 k m n s2 (IntKind.i64.wrap (i3 + 1))))
    (some ([.one (.lst true 5 []), .one (Cell.bool false)], []))
noncomputable def fed (k m : Nat) (s1 : ByteArray) : Option Res :=
  cond (s1.toList == (bs [42]).toList)
  (some ([.one (.lst true 5 [[Cell.int 4, Cell.int 0, Cell.int 0, Cell.int 0, .lst true 1 []]]), .one (Cell.bool true)], []))
  (fed_l0 k m m s1 0)
noncomputable abbrev fed_l0_B (k m : Nat) : (Ex → Fr → Option Res) → Fr → Option Res := evC G_fed fi_fed (evF G_fed (k + 1)) m (sub [1, 1, 1, 0, 1, 2, 3] fi_fed.code) none
noncomputable abbrev fed_l0_K (k m : Nat) : Ex → Fr → Option Res := blockK 0 (seqK (evC G_fed fi_fed (evF G_fed (k + 1)) m (sub [1, 1, 1, 1] fi_fed.code) none) (retK G_fed fi_fed))
theorem fed_l0_eq (k m : Nat) : ∀ (n : Nat) (s2 : ByteArray) (i3 : Int), loopK (some [0, 4, 5]) (fed_l0_B k m) (fed_l0_K k m) n ⟨fT 53 0 [(0, .av (.one (Cell.str s2))), (4, .av (.one (.lst true 1 [[Cell.str (bs [94])], [Cell.str (bs [126])], [Cell.str (bs [62, 61])], [Cell.str (bs [62])], [Cell.str (bs [60, 61])], [Cell.str (bs [60])], [Cell.str (bs [61])], [Cell.str (bs [])]]))), (5, .av (.one (Cell.int i3)))], fX 53 0 [], []⟩ = fed_l0 (k + 1) m n s2 i3 := by
  intro n
  induction n with
  | zero => intros; rfl
  | succ n ih =>
    intros
    simp only [fed_l0, ← ih]
    kernel_rfl
theorem fed_code (k m : Nat) (s1 : ByteArray) : evC G_fed fi_fed (evF G_fed (k + 1)) m fi_fed.code none (retK G_fed fi_fed) (enter fi_fed [.one (Cell.str s1)] []) = fed (k + 1) m s1 := by
  simp only [fed, ← fed_l0_eq k m]
  kernel_rfl
theorem fed_eq (k : Nat) (s1 : ByteArray) : evF G_fed (k + 2) fid_fed [.one (Cell.str s1)] [] = fed (k + 1) (k + 1) s1 :=
  Eq.trans (by kernel_rfl) (fed_code k (k + 1) s1)
theorem run_fed_of {s1 : ByteArray} {r : Res} (k : Nat) (h : fed (k + 1) (k + 1) s1 = some r) : run_fed [.one (Cell.str s1)] [] = some r := lim_of ((fed_eq k s1).trans h)
noncomputable def pl_fdw : List (Nat × Run) := [(fid_fdc, run_fdc), (fid_fed, run_fed)]
noncomputable def G_fdw : Ctx := ctx tyTab fiTab pl_fdw
noncomputable def run_fdw : Run := lim G_fdw fid_fdw
theorem ok_fdw : FnOk Tryz.prog OkT fid_fdw run_fdw := lim_ok (l := pl_fdw) Tryz_mix tyTab_ok fiTab_ok okT (.cons ok_fdc (.cons ok_fed .nil)) fid_fdw
noncomputable def fdw_l0 (k m : Nat) : Nat → Cell → Cell → Int → List Entry → Option Res
  | 0, _, _, _, _ => none
  | n + 1, c25, c26, i27, H28 =>
    (lenC c25).bind fun n29 =>
    cond (decide (i27 < (n29 : Int)))
    ((idxA 1 (c25) i27).bind fun c30 =>
    (deref H28 (c30)).bind fun p31 =>
    (cS p31.1 p31.2).bind fun s32 =>
    (callL run_fed [.one (Cell.str s32)] H28).bind fun r33 =>
    cond (shapeOk rk_fed r33.1)
    ((cC (cellsAt r33.1 0) 0).bind fun c34 =>
    (cB (cellsAt r33.1 1) 0).bind fun b35 =>
    cond (!b35)
    (some ([.one (c26), .one (Cell.bool false)], r33.2))
    ((srcRows r33.2 5 c34).bind fun r36 =>
    (app r33.2 5 56 (c26) r36).bind fun p37 =>
    fdw_l0 k m n (c25) (p37.1) (IntKind.i64.wrap (i27 + 1)) p37.2))
    none)
    ((lenC c26).bind fun n38 =>
    some ([.one (c26), .one (Cell.bool (decide ((n38 : Int) ≤ 4)))], H28))
noncomputable def fdw (k m : Nat) (c1 : Cell) : Option Res :=
  (lenC c1).bind fun n2 =>
  cond ((n2 : Int) == 3)
  ((idxA 1 (c1) 1).bind fun c3 =>
  (deref [] (c3)).bind fun p4 =>
  (cS p4.1 p4.2).bind fun s5 =>
  cond (s5.toList == (bs [45]).toList)
  ((idxA 1 (c1) 0).bind fun c6 =>
  (deref [] (c6)).bind fun p7 =>
  (cS p7.1 p7.2).bind fun s8 =>
  (callL run_fdc [.one (Cell.str s8)] []).bind fun r9 =>
  cond (shapeOk rk_fdc r9.1)
  ((cI .i64 (cellsAt r9.1 0) 0).bind fun i10 =>
  (cI .i64 (cellsAt r9.1 0) 1).bind fun i11 =>
  (cI .i64 (cellsAt r9.1 0) 2).bind fun i12 =>
  (cC (cellsAt r9.1 0) 3).bind fun c13 =>
  (cB (cellsAt r9.1 1) 0).bind fun b14 =>
  (idxA 1 (c1) 2).bind fun c15 =>
  (deref r9.2 (c15)).bind fun p16 =>
  (cS p16.1 p16.2).bind fun s17 =>
  (callL run_fdc [.one (Cell.str s17)] r9.2).bind fun r18 =>
  cond (shapeOk rk_fdc r18.1)
  ((cI .i64 (cellsAt r18.1 0) 0).bind fun i19 =>
  (cI .i64 (cellsAt r18.1 0) 1).bind fun i20 =>
  (cI .i64 (cellsAt r18.1 0) 2).bind fun i21 =>
  (cC (cellsAt r18.1 0) 3).bind fun c22 =>
  (cB (cellsAt r18.1 1) 0).bind fun b23 =>
  restK [Cell.int 4, Cell.int i10, Cell.int i11, Cell.int i12, c13, Cell.int 2, Cell.int i19, Cell.int i20, Cell.int i21, c22] fun d24 =>
  cond b14
  (some ([.one ((.lst true 5 (chunks 5 2 d24))), .one (Cell.bool b23)], r18.2))
  (some ([.one ((.lst true 5 (chunks 5 2 d24))), .one (Cell.bool false)], r18.2)))
  none)
  none)
  (fdw_l0 k m m (c1) (.lst true 5 []) 0 []))
  (fdw_l0 k m m (c1) (.lst true 5 []) 0 [])
noncomputable abbrev fdw_l0_B (k m : Nat) : (Ex → Fr → Option Res) → Fr → Option Res := evC G_fdw fi_fdw (evF G_fdw (k + 1)) m (sub [1, 1, 1, 0, 1, 2, 3] fi_fdw.code) none
noncomputable abbrev fdw_l0_K (k m : Nat) : Ex → Fr → Option Res := blockK 0 (seqK (evC G_fdw fi_fdw (evF G_fdw (k + 1)) m (sub [1, 1, 1, 1] fi_fdw.code) none) (retK G_fdw fi_fdw))
theorem fdw_l0_eq (k m : Nat) : ∀ (n : Nat) (c25 : Cell) (c26 : Cell) (i27 : Int) (H28 : List Entry), loopK (some [0, 4, 9]) (fdw_l0_B k m) (fdw_l0_K k m) n ⟨fT 69 0 [(0, .av (.one (c25))), (4, .av (.one (c26))), (9, .av (.one (Cell.int i27)))], fX 69 0 [], H28⟩ = fdw_l0 (k + 1) m n c25 c26 i27 H28 := by
  intro n
  induction n with
  | zero => intros; rfl
  | succ n ih =>
    intros
    simp only [fdw_l0, ← ih]
    kernel_rfl
theorem fdw_code (k m : Nat) (c1 : Cell) : evC G_fdw fi_fdw (evF G_fdw (k + 1)) m fi_fdw.code none (retK G_fdw fi_fdw) (enter fi_fdw [.one (c1)] []) = fdw (k + 1) m c1 := by
  simp only [fdw, ← fdw_l0_eq k m]
  kernel_rfl
theorem fdw_eq (k : Nat) (c1 : Cell) : evF G_fdw (k + 2) fid_fdw [.one (c1)] [] = fdw (k + 1) (k + 1) c1 :=
  Eq.trans (by kernel_rfl) (fdw_code k (k + 1) c1)
theorem run_fdw_of {c1 : Cell} {r : Res} (k : Nat) (h : fdw (k + 1) (k + 1) c1 = some r) : run_fdw [.one (c1)] [] = some r := lim_of ((fdw_eq k c1).trans h)
noncomputable def pl_fec : List (Nat × Run) := []
noncomputable def G_fec : Ctx := ctx tyTab fiTab pl_fec
noncomputable def run_fec : Run := lim G_fec fid_fec
theorem ok_fec : FnOk Tryz.prog OkT fid_fec run_fec := lim_ok (l := pl_fec) Tryz_mix tyTab_ok fiTab_ok okT .nil fid_fec
noncomputable def fec_l1 (k m : Nat) : Nat → ByteArray → Option Res
  | 0, _ => none
  | n + 1, s5 =>
    cond (decide ((s5.size : Int) > 0))
    ((bytS s5 (IntKind.i64.wrap ((s5.size : Int) - 1))).bind fun i6 =>
    cond (i6 == 32)
    ((subS s5 0 (IntKind.i64.wrap ((s5.size : Int) - 1))).bind fun s7 =>
    fec_l1 k m n s7)
    (some ([.one (Cell.str s5)], [])))
    (some ([.one (Cell.str s5)], []))
noncomputable def fec_l0 (k m : Nat) : Nat → ByteArray → Option Res
  | 0, _ => none
  | n + 1, s2 =>
    cond (decide ((s2.size : Int) > 0))
    ((bytS s2 0).bind fun i3 =>
    cond (i3 == 32)
    ((subS s2 1 (s2.size : Int)).bind fun s4 =>
    fec_l0 k m n s4)
    (fec_l1 k m m s2))
    (fec_l1 k m m s2)
noncomputable def fec (k m : Nat) (s1 : ByteArray) : Option Res :=
  fec_l0 k m m s1
noncomputable abbrev fec_l0_B (k m : Nat) : (Ex → Fr → Option Res) → Fr → Option Res := evC G_fec fi_fec (evF G_fec (k + 1)) m (sub [1, 0, 2, 3] fi_fec.code) none
noncomputable abbrev fec_l0_K (k m : Nat) : Ex → Fr → Option Res := blockK 0 (seqK (evC G_fec fi_fec (evF G_fec (k + 1)) m (sub [1, 1] fi_fec.code) none) (retK G_fec fi_fec))
noncomputable abbrev fec_l1_B (k m : Nat) : (Ex → Fr → Option Res) → Fr → Option Res := evC G_fec fi_fec (evF G_fec (k + 1)) m (sub [1, 1, 0, 2, 3] fi_fec.code) none
noncomputable abbrev fec_l1_K (k m : Nat) : Ex → Fr → Option Res := blockK 2 (seqK (evC G_fec fi_fec (evF G_fec (k + 1)) m (sub [1, 1, 1] fi_fec.code) none) (retK G_fec fi_fec))
theorem fec_l1_eq (k m : Nat) : ∀ (n : Nat) (s5 : ByteArray), loopK (some [0]) (fec_l1_B k m) (fec_l1_K k m) n ⟨fT 30 0 [(0, .av (.one (Cell.str s5)))], fX 30 0 [], []⟩ = fec_l1 (k + 1) m n s5 := by
  intro n
  induction n with
  | zero => intros; rfl
  | succ n ih =>
    intros
    simp only [fec_l1, ← ih]
    kernel_rfl
theorem fec_l0_eq (k m : Nat) : ∀ (n : Nat) (s2 : ByteArray), loopK (some [0]) (fec_l0_B k m) (fec_l0_K k m) n ⟨fT 30 0 [(0, .av (.one (Cell.str s2)))], fX 30 0 [], []⟩ = fec_l0 (k + 1) m n s2 := by
  intro n
  induction n with
  | zero => intros; rfl
  | succ n ih =>
    intros
    simp only [fec_l0, ← fec_l1_eq k m, ← ih]
    kernel_rfl
theorem fec_code (k m : Nat) (s1 : ByteArray) : evC G_fec fi_fec (evF G_fec (k + 1)) m fi_fec.code none (retK G_fec fi_fec) (enter fi_fec [.one (Cell.str s1)] []) = fec (k + 1) m s1 := by
  simp only [fec, ← fec_l0_eq k m]
  kernel_rfl
theorem fec_eq (k : Nat) (s1 : ByteArray) : evF G_fec (k + 2) fid_fec [.one (Cell.str s1)] [] = fec (k + 1) (k + 1) s1 :=
  Eq.trans (by kernel_rfl) (fec_code k (k + 1) s1)
theorem run_fec_of {s1 : ByteArray} {r : Res} (k : Nat) (h : fec (k + 1) (k + 1) s1 = some r) : run_fec [.one (Cell.str s1)] [] = some r := lim_of ((fec_eq k s1).trans h)
end Go.Ev
