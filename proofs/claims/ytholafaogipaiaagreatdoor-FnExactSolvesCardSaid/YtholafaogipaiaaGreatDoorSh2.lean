/- Conditions: none. -/
import Derived.Test.YtholafaogipaiaaGreatDoorSh1
import Derived.KernelRfl
namespace Go.Ev
open Go Go.Proofs
set_option maxRecDepth 100000
set_option linter.unusedVariables false
set_option linter.unusedSimpArgs false
noncomputable def pl_fdv : List (Nat × Run) := [(fid_fdh, run_fdh)]
noncomputable def G_fdv : Ctx := ctx tyTab fiTab pl_fdv
noncomputable def run_fdv : Run := lim G_fdv fid_fdv
theorem ok_fdv : FnOk Tryz.prog OkT fid_fdv run_fdv := lim_ok (l := pl_fdv) Tryz_mix tyTab_ok fiTab_ok okT (.cons ok_fdh .nil) fid_fdv
noncomputable def fdv_l0 (k m : Nat) : Nat → Cell → Int → Option Res
  | 0, _, _ => none
  | n + 1, c2, i3 =>
    (lenC c2).bind fun n4 =>
    cond (decide (i3 < (n4 : Int)))
    ((idxA 5 (c2) i3).bind fun c5 =>
    (fldA c5 1).bind fun c6 =>
    (deref [] (c6)).bind fun p7 =>
    (cI .i64 p7.1 p7.2).bind fun i8 =>
    (cI .i64 p7.1 (p7.2 + 1)).bind fun i9 =>
    (cI .i64 p7.1 ((p7.2 + 1) + 1)).bind fun i10 =>
    (cC p7.1 (((p7.2 + 1) + 1) + 1)).bind fun c11 =>
    (callS run_fdh [.agg [Cell.int i8, Cell.int i9, Cell.int i10, c11]] []).bind fun r12 =>
    cond (shapeOk rk_fdh r12)
    ((cB (cellsAt r12 0) 0).bind fun b13 =>
    cond (!b13)
    (some ([.one (Cell.bool false)], []))
    (fdv_l0 k m n (c2) (IntKind.i64.wrap (i3 + 1))))
    none)
    (some ([.one (Cell.bool true)], []))
noncomputable def fdv (k m : Nat) (c1 : Cell) : Option Res :=
  fdv_l0 k m m (c1) 0
noncomputable abbrev fdv_l0_B (k m : Nat) : (Ex → Fr → Option Res) → Fr → Option Res := evC G_fdv fi_fdv (evF G_fdv (k + 1)) m (sub [1, 0, 1, 2, 3] fi_fdv.code) none
noncomputable abbrev fdv_l0_K (k m : Nat) : Ex → Fr → Option Res := blockK 0 (seqK (evC G_fdv fi_fdv (evF G_fdv (k + 1)) m (sub [1, 1] fi_fdv.code) none) (retK G_fdv fi_fdv))
theorem fdv_l0_eq (k m : Nat) : ∀ (n : Nat) (c2 : Cell) (i3 : Int), loopK (some [0, 3]) (fdv_l0_B k m) (fdv_l0_K k m) n ⟨fT 17 0 [(0, .av (.one (c2))), (3, .av (.one (Cell.int i3)))], fX 17 0 [], []⟩ = fdv_l0 (k + 1) m n c2 i3 := by
  intro n
  induction n with
  | zero => intros; rfl
  | succ n ih =>
    intros
    simp only [fdv_l0, ← ih]
    kernel_rfl
theorem fdv_code (k m : Nat) (c1 : Cell) : evC G_fdv fi_fdv (evF G_fdv (k + 1)) m fi_fdv.code none (retK G_fdv fi_fdv) (enter fi_fdv [.one (c1)] []) = fdv (k + 1) m c1 := by
  simp only [fdv, ← fdv_l0_eq k m]
  kernel_rfl
theorem fdv_eq (k : Nat) (c1 : Cell) : evF G_fdv (k + 2) fid_fdv [.one (c1)] [] = fdv (k + 1) (k + 1) c1 :=
  Eq.trans (by kernel_rfl) (fdv_code k (k + 1) c1)
theorem run_fdv_of {c1 : Cell} {r : Res} (k : Nat) (h : fdv (k + 1) (k + 1) c1 = some r) : run_fdv [.one (c1)] [] = some r := lim_of ((fdv_eq k c1).trans h)
noncomputable def pl_fdb : List (Nat × Run) := [(fid_fdg, run_fdg), (fid_fea, run_fea), (fid_fdw, run_fdw), (fid_fec, run_fec), (fid_fdv, run_fdv)]
noncomputable def G_fdb : Ctx := ctx tyTab fiTab pl_fdb
noncomputable def run_fdb : Run := lim G_fdb fid_fdb
theorem ok_fdb : FnOk Tryz.prog OkT fid_fdb run_fdb := lim_ok (l := pl_fdb) Tryz_mix tyTab_ok fiTab_ok okT (.cons ok_fdg (.cons ok_fea (.cons ok_fdw (.cons ok_fec (.cons ok_fdv .nil))))) fid_fdb
noncomputable def fdb_l0 (k m : Nat) : Nat → Cell → Cell → Int → List Entry → Option Res
  | 0, _, _, _, _ => none
  | n + 1, c4, c5, i6, H7 =>
    (lenC c5).bind fun n8 =>
    cond (decide (i6 < (n8 : Int)))
    ((idxA 1 (c5) i6).bind fun c9 =>
    (deref H7 (c9)).bind fun p10 =>
    (cS p10.1 p10.2).bind fun s11 =>
    (callS run_fec [.one (Cell.str s11)] H7).bind fun r12 =>
    cond (shapeOk rk_fec r12)
    ((cS (cellsAt r12 0) 0).bind fun s13 =>
    (callL run_fdg [.one (Cell.str s13), .one (.sc (.int .u8 32))] H7).bind fun r14 =>
    cond (shapeOk rk_fdg r14.1)
    ((cC (cellsAt r14.1 0) 0).bind fun c15 =>
    (callL run_fdw [.one (c15)] r14.2).bind fun r16 =>
    cond (shapeOk rk_fdw r16.1)
    ((cC (cellsAt r16.1 0) 0).bind fun c17 =>
    (cB (cellsAt r16.1 1) 0).bind fun b18 =>
    cond (!b18)
    (some ([.one (.lst true 1 []), .one (Cell.bool false)], r16.2))
    ((callS run_fdv [.one (c17)] r16.2).bind fun r19 =>
    cond (shapeOk rk_fdv r19)
    ((cB (cellsAt r19 0) 0).bind fun b20 =>
    cond (!b20)
    (some ([.one (.lst true 1 []), .one (Cell.bool false)], r16.2))
    (restK [c17] fun d21 =>
    (srcRows r16.2 1 (.lst true 1 (chunks 1 1 d21))).bind fun r22 =>
    (app r16.2 1 24 (c4) r22).bind fun p23 =>
    fdb_l0 k m n (p23.1) (c5) (IntKind.i64.wrap (i6 + 1)) p23.2))
    none))
    none)
    none)
    none)
    ((lenC c4).bind fun n24 =>
    cond (decide ((n24 : Int) > 4))
    (some ([.one (.lst true 1 []), .one (Cell.bool false)], H7))
    (some ([.one (c4), .one (Cell.bool true)], H7)))
noncomputable def fdb (k m : Nat) (s1 : ByteArray) : Option Res :=
  (callL run_fea [.one (Cell.str s1)] []).bind fun r2 =>
  cond (shapeOk rk_fea r2.1)
  ((cC (cellsAt r2.1 0) 0).bind fun c3 =>
  fdb_l0 k m m (.lst true 1 []) (c3) 0 r2.2)
  none
noncomputable abbrev fdb_l0_B (k m : Nat) : (Ex → Fr → Option Res) → Fr → Option Res := evC G_fdb fi_fdb (evF G_fdb (k + 1)) m (sub [1, 1, 1, 0, 1, 2, 3] fi_fdb.code) none
noncomputable abbrev fdb_l0_K (k m : Nat) : Ex → Fr → Option Res := blockK 0 (seqK (evC G_fdb fi_fdb (evF G_fdb (k + 1)) m (sub [1, 1, 1, 1] fi_fdb.code) none) (retK G_fdb fi_fdb))
theorem fdb_l0_eq (k m : Nat) : ∀ (n : Nat) (c4 : Cell) (c5 : Cell) (i6 : Int) (H7 : List Entry), loopK (some [4, 5, 6]) (fdb_l0_B k m) (fdb_l0_K k m) n ⟨fT 45 0 [(4, .av (.one (c4))), (5, .av (.one (c5))), (6, .av (.one (Cell.int i6)))], fX 45 0 [], H7⟩ = fdb_l0 (k + 1) m n c4 c5 i6 H7 := by
  intro n
  induction n with
  | zero => intros; rfl
  | succ n ih =>
    intros
    simp only [fdb_l0, ← ih]
    kernel_rfl
theorem fdb_code (k m : Nat) (s1 : ByteArray) : evC G_fdb fi_fdb (evF G_fdb (k + 1)) m fi_fdb.code none (retK G_fdb fi_fdb) (enter fi_fdb [.one (Cell.str s1)] []) = fdb (k + 1) m s1 := by
  simp only [fdb, ← fdb_l0_eq k m]
  kernel_rfl
theorem fdb_eq (k : Nat) (s1 : ByteArray) : evF G_fdb (k + 2) fid_fdb [.one (Cell.str s1)] [] = fdb (k + 1) (k + 1) s1 :=
  Eq.trans (by kernel_rfl) (fdb_code k (k + 1) s1)
theorem run_fdb_of {s1 : ByteArray} {r : Res} (k : Nat) (h : fdb (k + 1) (k + 1) s1 = some r) : run_fdb [.one (Cell.str s1)] [] = some r := lim_of ((fdb_eq k s1).trans h)
noncomputable def pl_fdr : List (Nat × Run) := []
noncomputable def G_fdr : Ctx := ctx tyTab fiTab pl_fdr
noncomputable def run_fdr : Run := lim G_fdr fid_fdr
theorem ok_fdr : FnOk Tryz.prog OkT fid_fdr run_fdr := lim_ok (l := pl_fdr) Tryz_mix tyTab_ok fiTab_ok okT .nil fid_fdr
noncomputable def fdr (k m : Nat) (i1 : Int) (i2 : Int) (i3 : Int) (c4 : Cell) (i5 : Int) (i6 : Int) (i7 : Int) (c8 : Cell) : Option Res :=
  cond (i1 == i5)
  (cond (i2 == i6)
  (some ([.one (Cell.bool (i3 == i7))], []))
  (some ([.one (Cell.bool false)], [])))
  (some ([.one (Cell.bool false)], []))
theorem fdr_code (k m : Nat) (i1 : Int) (i2 : Int) (i3 : Int) (c4 : Cell) (i5 : Int) (i6 : Int) (i7 : Int) (c8 : Cell) : evC G_fdr fi_fdr (evF G_fdr (k + 1)) m fi_fdr.code none (retK G_fdr fi_fdr) (enter fi_fdr [.agg [Cell.int i1, Cell.int i2, Cell.int i3, c4], .agg [Cell.int i5, Cell.int i6, Cell.int i7, c8]] []) = fdr (k + 1) m i1 i2 i3 c4 i5 i6 i7 c8 := by
  kernel_rfl
theorem fdr_eq (k : Nat) (i1 : Int) (i2 : Int) (i3 : Int) (c4 : Cell) (i5 : Int) (i6 : Int) (i7 : Int) (c8 : Cell) : evF G_fdr (k + 2) fid_fdr [.agg [Cell.int i1, Cell.int i2, Cell.int i3, c4], .agg [Cell.int i5, Cell.int i6, Cell.int i7, c8]] [] = fdr (k + 1) (k + 1) i1 i2 i3 c4 i5 i6 i7 c8 :=
  Eq.trans (by kernel_rfl) (fdr_code k (k + 1) i1 i2 i3 c4 i5 i6 i7 c8)
theorem run_fdr_of {i1 : Int} {i2 : Int} {i3 : Int} {c4 : Cell} {i5 : Int} {i6 : Int} {i7 : Int} {c8 : Cell} {r : Res} (k : Nat) (h : fdr (k + 1) (k + 1) i1 i2 i3 c4 i5 i6 i7 c8 = some r) : run_fdr [.agg [Cell.int i1, Cell.int i2, Cell.int i3, c4], .agg [Cell.int i5, Cell.int i6, Cell.int i7, c8]] [] = some r := lim_of ((fdr_eq k i1 i2 i3 c4 i5 i6 i7 c8).trans h)
noncomputable def pl_fdl : List (Nat × Run) := []
noncomputable def G_fdl : Ctx := ctx tyTab fiTab pl_fdl
noncomputable def run_fdl : Run := lim G_fdl fid_fdl
theorem ok_fdl : FnOk Tryz.prog OkT fid_fdl run_fdl := lim_ok (l := pl_fdl) Tryz_mix tyTab_ok fiTab_ok okT .nil fid_fdl
noncomputable def fdl_l0 (k m : Nat) : Nat → Cell → Cell → Int → Option Res
  | 0, _, _, _ => none
  | n + 1, c5, c6, i7 =>
    (lenC c5).bind fun n8 =>
    cond (decide (i7 < (n8 : Int)))
    ((idxA 1 (c5) i7).bind fun c9 =>
    (deref [] (c9)).bind fun p10 =>
    (cS p10.1 p10.2).bind fun s11 =>
    (idxA 1 (c6) i7).bind fun c12 =>
    (deref [] (c12)).bind fun p13 =>
    (cS p13.1 p13.2).bind fun s14 =>
    cond (!(s11.toList == s14.toList))
    (some ([.one (Cell.bool false)], []))
    (fdl_l0 k m n (c5) (c6) (IntKind.i64.wrap (i7 + 1))))
    (some ([.one (Cell.bool true)], []))
noncomputable def fdl (k m : Nat) (c1 : Cell) (c2 : Cell) : Option Res :=
  (lenC c1).bind fun n3 =>
  (lenC c2).bind fun n4 =>
  cond ((n3 : Int) != (n4 : Int))
  (some ([.one (Cell.bool false)], []))
  (fdl_l0 k m m (c1) (c2) 0)
noncomputable abbrev fdl_l0_B (k m : Nat) : (Ex → Fr → Option Res) → Fr → Option Res := evC G_fdl fi_fdl (evF G_fdl (k + 1)) m (sub [1, 1, 0, 1, 2, 3] fi_fdl.code) none
noncomputable abbrev fdl_l0_K (k m : Nat) : Ex → Fr → Option Res := blockK 0 (seqK (evC G_fdl fi_fdl (evF G_fdl (k + 1)) m (sub [1, 1, 1] fi_fdl.code) none) (retK G_fdl fi_fdl))
theorem fdl_l0_eq (k m : Nat) : ∀ (n : Nat) (c5 : Cell) (c6 : Cell) (i7 : Int), loopK (some [0, 1, 5]) (fdl_l0_B k m) (fdl_l0_K k m) n ⟨fT 26 0 [(0, .av (.one (c5))), (1, .av (.one (c6))), (5, .av (.one (Cell.int i7)))], fX 26 0 [], []⟩ = fdl_l0 (k + 1) m n c5 c6 i7 := by
  intro n
  induction n with
  | zero => intros; rfl
  | succ n ih =>
    intros
    simp only [fdl_l0, ← ih]
    kernel_rfl
theorem fdl_code (k m : Nat) (c1 : Cell) (c2 : Cell) : evC G_fdl fi_fdl (evF G_fdl (k + 1)) m fi_fdl.code none (retK G_fdl fi_fdl) (enter fi_fdl [.one (c1), .one (c2)] []) = fdl (k + 1) m c1 c2 := by
  simp only [fdl, ← fdl_l0_eq k m]
  kernel_rfl
theorem fdl_eq (k : Nat) (c1 : Cell) (c2 : Cell) : evF G_fdl (k + 2) fid_fdl [.one (c1), .one (c2)] [] = fdl (k + 1) (k + 1) c1 c2 :=
  Eq.trans (by kernel_rfl) (fdl_code k (k + 1) c1 c2)
theorem run_fdl_of {c1 : Cell} {c2 : Cell} {r : Res} (k : Nat) (h : fdl (k + 1) (k + 1) c1 c2 = some r) : run_fdl [.one (c1), .one (c2)] [] = some r := lim_of ((fdl_eq k c1 c2).trans h)
noncomputable def pl_fde : List (Nat × Run) := [(fid_fdr, run_fdr), (fid_fdl, run_fdl)]
noncomputable def G_fde : Ctx := ctx tyTab fiTab pl_fde
noncomputable def run_fde : Run := lim G_fde fid_fde
theorem ok_fde : FnOk Tryz.prog OkT fid_fde run_fde := lim_ok (l := pl_fde) Tryz_mix tyTab_ok fiTab_ok okT (.cons ok_fdr (.cons ok_fdl .nil)) fid_fde
noncomputable def fde (k m : Nat) (i1 : Int) (i2 : Int) (i3 : Int) (c4 : Cell) (i5 : Int) (i6 : Int) (i7 : Int) (c8 : Cell) : Option Res :=
  (callS run_fdr [.agg [Cell.int i1, Cell.int i2, Cell.int i3, c4], .agg [Cell.int i5, Cell.int i6, Cell.int i7, c8]] []).bind fun r9 =>
  cond (shapeOk rk_fdr r9)
  ((cB (cellsAt r9 0) 0).bind fun b10 =>
  cond b10
  ((callS run_fdl [.one (c4), .one (c8)] []).bind fun r11 =>
  cond (shapeOk rk_fdl r11)
  ((cB (cellsAt r11 0) 0).bind fun b12 =>
  some ([.one (Cell.bool b12)], []))
  none)
  (some ([.one (Cell.bool false)], [])))
  none
theorem fde_code (k m : Nat) (i1 : Int) (i2 : Int) (i3 : Int) (c4 : Cell) (i5 : Int) (i6 : Int) (i7 : Int) (c8 : Cell) : evC G_fde fi_fde (evF G_fde (k + 1)) m fi_fde.code none (retK G_fde fi_fde) (enter fi_fde [.agg [Cell.int i1, Cell.int i2, Cell.int i3, c4], .agg [Cell.int i5, Cell.int i6, Cell.int i7, c8]] []) = fde (k + 1) m i1 i2 i3 c4 i5 i6 i7 c8 := by
  kernel_rfl
theorem fde_eq (k : Nat) (i1 : Int) (i2 : Int) (i3 : Int) (c4 : Cell) (i5 : Int) (i6 : Int) (i7 : Int) (c8 : Cell) : evF G_fde (k + 2) fid_fde [.agg [Cell.int i1, Cell.int i2, Cell.int i3, c4], .agg [Cell.int i5, Cell.int i6, Cell.int i7, c8]] [] = fde (k + 1) (k + 1) i1 i2 i3 c4 i5 i6 i7 c8 :=
  Eq.trans (by kernel_rfl) (fde_code k (k + 1) i1 i2 i3 c4 i5 i6 i7 c8)
theorem run_fde_of {i1 : Int} {i2 : Int} {i3 : Int} {c4 : Cell} {i5 : Int} {i6 : Int} {i7 : Int} {c8 : Cell} {r : Res} (k : Nat) (h : fde (k + 1) (k + 1) i1 i2 i3 c4 i5 i6 i7 c8 = some r) : run_fde [.agg [Cell.int i1, Cell.int i2, Cell.int i3, c4], .agg [Cell.int i5, Cell.int i6, Cell.int i7, c8]] [] = some r := lim_of ((fde_eq k i1 i2 i3 c4 i5 i6 i7 c8).trans h)
noncomputable def pl_fdo : List (Nat × Run) := [(fid_fdn, run_fdn)]
noncomputable def G_fdo : Ctx := ctx tyTab fiTab pl_fdo
noncomputable def run_fdo : Run := lim G_fdo fid_fdo
theorem ok_fdo : FnOk Tryz.prog OkT fid_fdo run_fdo := lim_ok (l := pl_fdo) Tryz_mix tyTab_ok fiTab_ok okT (.cons ok_fdn .nil) fid_fdo
noncomputable def fdo (k m : Nat) (s1 : ByteArray) (s2 : ByteArray) : Option Res :=
  (callS run_fdn [.one (Cell.str s1)] []).bind fun r3 =>
  cond (shapeOk rk_fdn r3)
  ((cB (cellsAt r3 0) 0).bind fun b4 =>
  (callS run_fdn [.one (Cell.str s2)] []).bind fun r5 =>
  cond (shapeOk rk_fdn r5)
  ((cB (cellsAt r5 0) 0).bind fun b6 =>
  cond b4
  (cond b6
  (cond ((s1.size : Int) != (s2.size : Int))
  (some ([.one (Cell.bool (decide ((s1.size : Int) < (s2.size : Int))))], []))
  (some ([.one (Cell.bool (Op.bytesLess s1.toList s2.toList))], [])))
  (cond (!(b4 == b6))
  (some ([.one (Cell.bool b4)], []))
  (some ([.one (Cell.bool (Op.bytesLess s1.toList s2.toList))], []))))
  (cond (!(b4 == b6))
  (some ([.one (Cell.bool b4)], []))
  (some ([.one (Cell.bool (Op.bytesLess s1.toList s2.toList))], []))))
  none)
  none
theorem fdo_code (k m : Nat) (s1 : ByteArray) (s2 : ByteArray) : evC G_fdo fi_fdo (evF G_fdo (k + 1)) m fi_fdo.code none (retK G_fdo fi_fdo) (enter fi_fdo [.one (Cell.str s1), .one (Cell.str s2)] []) = fdo (k + 1) m s1 s2 := by
  kernel_rfl
theorem fdo_eq (k : Nat) (s1 : ByteArray) (s2 : ByteArray) : evF G_fdo (k + 2) fid_fdo [.one (Cell.str s1), .one (Cell.str s2)] [] = fdo (k + 1) (k + 1) s1 s2 :=
  Eq.trans (by kernel_rfl) (fdo_code k (k + 1) s1 s2)
theorem run_fdo_of {s1 : ByteArray} {s2 : ByteArray} {r : Res} (k : Nat) (h : fdo (k + 1) (k + 1) s1 s2 = some r) : run_fdo [.one (Cell.str s1), .one (Cell.str s2)] [] = some r := lim_of ((fdo_eq k s1 s2).trans h)
noncomputable def pl_fdp : List (Nat × Run) := [(fid_fdo, run_fdo)]
noncomputable def G_fdp : Ctx := ctx tyTab fiTab pl_fdp
noncomputable def run_fdp : Run := lim G_fdp fid_fdp
theorem ok_fdp : FnOk Tryz.prog OkT fid_fdp run_fdp := lim_ok (l := pl_fdp) Tryz_mix tyTab_ok fiTab_ok okT (.cons ok_fdo .nil) fid_fdp
noncomputable def fdp_l0 (k m : Nat) : Nat → Cell → Cell → Int → Option Res
  | 0, _, _, _ => none
  | n + 1, c9, c10, i11 =>
    (lenC c9).bind fun n12 =>
    cond (decide (i11 < (n12 : Int)))
    ((lenC c10).bind fun n13 =>
    cond (decide (i11 < (n13 : Int)))
    ((idxA 1 (c9) i11).bind fun c14 =>
    (deref [] (c14)).bind fun p15 =>
    (cS p15.1 p15.2).bind fun s16 =>
    (idxA 1 (c10) i11).bind fun c17 =>
    (deref [] (c17)).bind fun p18 =>
    (cS p18.1 p18.2).bind fun s19 =>
    cond (!(s16.toList == s19.toList))
    ((idxA 1 (c9) i11).bind fun c20 =>
    (deref [] (c20)).bind fun p21 =>
    (cS p21.1 p21.2).bind fun s22 =>
    (idxA 1 (c10) i11).bind fun c23 =>
    (deref [] (c23)).bind fun p24 =>
    (cS p24.1 p24.2).bind fun s25 =>
    (callS run_fdo [.one (Cell.str s22), .one (Cell.str s25)] []).bind fun r26 =>
    cond (shapeOk rk_fdo r26)
    ((cB (cellsAt r26 0) 0).bind fun b27 =>
    some ([.one (Cell.bool b27)], []))
    none)
    (fdp_l0 k m n (c9) (c10) (IntKind.i64.wrap (i11 + 1))))
    ((lenC c9).bind fun n28 =>
    (lenC c10).bind fun n29 =>
    some ([.one (Cell.bool (decide ((n28 : Int) < (n29 : Int))))], [])))
    ((lenC c9).bind fun n30 =>
    (lenC c10).bind fun n31 =>
    some ([.one (Cell.bool (decide ((n30 : Int) < (n31 : Int))))], []))
noncomputable def fdp (k m : Nat) (c1 : Cell) (c2 : Cell) : Option Res :=
  (lenC c1).bind fun n3 =>
  cond ((n3 : Int) == 0)
  ((lenC c1).bind fun n4 =>
  cond (decide ((n4 : Int) > 0))
  ((lenC c2).bind fun n5 =>
  some ([.one (Cell.bool ((n5 : Int) == 0))], []))
  (some ([.one (Cell.bool false)], [])))
  ((lenC c2).bind fun n6 =>
  cond ((n6 : Int) == 0)
  ((lenC c1).bind fun n7 =>
  cond (decide ((n7 : Int) > 0))
  ((lenC c2).bind fun n8 =>
  some ([.one (Cell.bool ((n8 : Int) == 0))], []))
  (some ([.one (Cell.bool false)], [])))
  (fdp_l0 k m m (c1) (c2) 0))
noncomputable abbrev fdp_l0_B (k m : Nat) : (Ex → Fr → Option Res) → Fr → Option Res := evC G_fdp fi_fdp (evF G_fdp (k + 1)) m (sub [1, 1, 0, 1, 2, 3] fi_fdp.code) none
noncomputable abbrev fdp_l0_K (k m : Nat) : Ex → Fr → Option Res := blockK 0 (seqK (evC G_fdp fi_fdp (evF G_fdp (k + 1)) m (sub [1, 1, 1] fi_fdp.code) none) (retK G_fdp fi_fdp))
theorem fdp_l0_eq (k m : Nat) : ∀ (n : Nat) (c9 : Cell) (c10 : Cell) (i11 : Int), loopK (some [0, 1, 5]) (fdp_l0_B k m) (fdp_l0_K k m) n ⟨fT 57 0 [(0, .av (.one (c9))), (1, .av (.one (c10))), (5, .av (.one (Cell.int i11)))], fX 57 0 [], []⟩ = fdp_l0 (k + 1) m n c9 c10 i11 := by
  intro n
  induction n with
  | zero => intros; rfl
  | succ n ih =>
    intros
    simp only [fdp_l0, ← ih]
    kernel_rfl
theorem fdp_code (k m : Nat) (c1 : Cell) (c2 : Cell) : evC G_fdp fi_fdp (evF G_fdp (k + 1)) m fi_fdp.code none (retK G_fdp fi_fdp) (enter fi_fdp [.one (c1), .one (c2)] []) = fdp (k + 1) m c1 c2 := by
  simp only [fdp, ← fdp_l0_eq k m]
  kernel_rfl
theorem fdp_eq (k : Nat) (c1 : Cell) (c2 : Cell) : evF G_fdp (k + 2) fid_fdp [.one (c1), .one (c2)] [] = fdp (k + 1) (k + 1) c1 c2 :=
  Eq.trans (by kernel_rfl) (fdp_code k (k + 1) c1 c2)
theorem run_fdp_of {c1 : Cell} {c2 : Cell} {r : Res} (k : Nat) (h : fdp (k + 1) (k + 1) c1 c2 = some r) : run_fdp [.one (c1), .one (c2)] [] = some r := lim_of ((fdp_eq k c1 c2).trans h)
noncomputable def pl_fcy : List (Nat × Run) := [(fid_fdp, run_fdp)]
noncomputable def G_fcy : Ctx := ctx tyTab fiTab pl_fcy
noncomputable def run_fcy : Run := lim G_fcy fid_fcy
theorem ok_fcy : FnOk Tryz.prog OkT fid_fcy run_fcy := lim_ok (l := pl_fcy) Tryz_mix tyTab_ok fiTab_ok okT (.cons ok_fdp .nil) fid_fcy
noncomputable def fcy (k m : Nat) (i1 : Int) (i2 : Int) (i3 : Int) (c4 : Cell) (i5 : Int) (i6 : Int) (i7 : Int) (c8 : Cell) : Option Res :=
  cond (i1 != i5)
  (some ([.one (Cell.bool (decide (i1 < i5)))], []))
  (cond (i2 != i6)
  (some ([.one (Cell.bool (decide (i2 < i6)))], []))
  (cond (i3 != i7)
  (some ([.one (Cell.bool (decide (i3 < i7)))], []))
  ((callS run_fdp [.one (c4), .one (c8)] []).bind fun r9 =>
  cond (shapeOk rk_fdp r9)
  ((cB (cellsAt r9 0) 0).bind fun b10 =>
  some ([.one (Cell.bool b10)], []))
  none)))
theorem fcy_code (k m : Nat) (i1 : Int) (i2 : Int) (i3 : Int) (c4 : Cell) (i5 : Int) (i6 : Int) (i7 : Int) (c8 : Cell) : evC G_fcy fi_fcy (evF G_fcy (k + 1)) m fi_fcy.code none (retK G_fcy fi_fcy) (enter fi_fcy [.agg [Cell.int i1, Cell.int i2, Cell.int i3, c4], .agg [Cell.int i5, Cell.int i6, Cell.int i7, c8]] []) = fcy (k + 1) m i1 i2 i3 c4 i5 i6 i7 c8 := by
  kernel_rfl
theorem fcy_eq (k : Nat) (i1 : Int) (i2 : Int) (i3 : Int) (c4 : Cell) (i5 : Int) (i6 : Int) (i7 : Int) (c8 : Cell) : evF G_fcy (k + 2) fid_fcy [.agg [Cell.int i1, Cell.int i2, Cell.int i3, c4], .agg [Cell.int i5, Cell.int i6, Cell.int i7, c8]] [] = fcy (k + 1) (k + 1) i1 i2 i3 c4 i5 i6 i7 c8 :=
  Eq.trans (by kernel_rfl) (fcy_code k (k + 1) i1 i2 i3 c4 i5 i6 i7 c8)
theorem run_fcy_of {i1 : Int} {i2 : Int} {i3 : Int} {c4 : Cell} {i5 : Int} {i6 : Int} {i7 : Int} {c8 : Cell} {r : Res} (k : Nat) (h : fcy (k + 1) (k + 1) i1 i2 i3 c4 i5 i6 i7 c8 = some r) : run_fcy [.agg [Cell.int i1, Cell.int i2, Cell.int i3, c4], .agg [Cell.int i5, Cell.int i6, Cell.int i7, c8]] [] = some r := lim_of ((fcy_eq k i1 i2 i3 c4 i5 i6 i7 c8).trans h)
noncomputable def pl_fcv : List (Nat × Run) := [(fid_fde, run_fde), (fid_fcy, run_fcy)]
noncomputable def G_fcv : Ctx := ctx tyTab fiTab pl_fcv
noncomputable def run_fcv : Run := lim G_fcv fid_fcv
theorem ok_fcv : FnOk Tryz.prog OkT fid_fcv run_fcv := lim_ok (l := pl_fcv) Tryz_mix tyTab_ok fiTab_ok okT (.cons ok_fde (.cons ok_fcy .nil)) fid_fcv
noncomputable def fcv (k m : Nat) (i1 : Int) (i2 : Int) (i3 : Int) (i4 : Int) (c5 : Cell) (i6 : Int) (i7 : Int) (i8 : Int) (c9 : Cell) : Option Res :=
  cond (i1 == 0)
  ((callS run_fde [.agg [Cell.int i2, Cell.int i3, Cell.int i4, c5], .agg [Cell.int i6, Cell.int i7, Cell.int i8, c9]] []).bind fun r10 =>
  cond (shapeOk rk_fde r10)
  ((cB (cellsAt r10 0) 0).bind fun b11 =>
  some ([.one (Cell.bool b11)], []))
  none)
  (cond (i1 == 1)
  ((callS run_fcy [.agg [Cell.int i6, Cell.int i7, Cell.int i8, c9], .agg [Cell.int i2, Cell.int i3, Cell.int i4, c5]] []).bind fun r12 =>
  cond (shapeOk rk_fcy r12)
  ((cB (cellsAt r12 0) 0).bind fun b13 =>
  some ([.one (Cell.bool b13)], []))
  none)
  (cond (i1 == 2)
  ((callS run_fcy [.agg [Cell.int i2, Cell.int i3, Cell.int i4, c5], .agg [Cell.int i6, Cell.int i7, Cell.int i8, c9]] []).bind fun r14 =>
  cond (shapeOk rk_fcy r14)
  ((cB (cellsAt r14 0) 0).bind fun b15 =>
  some ([.one (Cell.bool (!b15))], []))
  none)
  (cond (i1 == 3)
  ((callS run_fcy [.agg [Cell.int i2, Cell.int i3, Cell.int i4, c5], .agg [Cell.int i6, Cell.int i7, Cell.int i8, c9]] []).bind fun r16 =>
  cond (shapeOk rk_fcy r16)
  ((cB (cellsAt r16 0) 0).bind fun b17 =>
  some ([.one (Cell.bool b17)], []))
  none)
  (cond (i1 == 4)
  ((callS run_fcy [.agg [Cell.int i6, Cell.int i7, Cell.int i8, c9], .agg [Cell.int i2, Cell.int i3, Cell.int i4, c5]] []).bind fun r18 =>
  cond (shapeOk rk_fcy r18)
  ((cB (cellsAt r18 0) 0).bind fun b19 =>
  some ([.one (Cell.bool (!b19))], []))
  none)
  (some ([.one (Cell.bool false)], []))))))
theorem fcv_code (k m : Nat) (i1 : Int) (i2 : Int) (i3 : Int) (i4 : Int) (c5 : Cell) (i6 : Int) (i7 : Int) (i8 : Int) (c9 : Cell) : evC G_fcv fi_fcv (evF G_fcv (k + 1)) m fi_fcv.code none (retK G_fcv fi_fcv) (enter fi_fcv [.agg [Cell.int i1, Cell.int i2, Cell.int i3, Cell.int i4, c5], .agg [Cell.int i6, Cell.int i7, Cell.int i8, c9]] []) = fcv (k + 1) m i1 i2 i3 i4 c5 i6 i7 i8 c9 := by
  kernel_rfl
theorem fcv_eq (k : Nat) (i1 : Int) (i2 : Int) (i3 : Int) (i4 : Int) (c5 : Cell) (i6 : Int) (i7 : Int) (i8 : Int) (c9 : Cell) : evF G_fcv (k + 2) fid_fcv [.agg [Cell.int i1, Cell.int i2, Cell.int i3, Cell.int i4, c5], .agg [Cell.int i6, Cell.int i7, Cell.int i8, c9]] [] = fcv (k + 1) (k + 1) i1 i2 i3 i4 c5 i6 i7 i8 c9 :=
  Eq.trans (by kernel_rfl) (fcv_code k (k + 1) i1 i2 i3 i4 c5 i6 i7 i8 c9)
theorem run_fcv_of {i1 : Int} {i2 : Int} {i3 : Int} {i4 : Int} {c5 : Cell} {i6 : Int} {i7 : Int} {i8 : Int} {c9 : Cell} {r : Res} (k : Nat) (h : fcv (k + 1) (k + 1) i1 i2 i3 i4 c5 i6 i7 i8 c9 = some r) : run_fcv [.agg [Cell.int i1, Cell.int i2, Cell.int i3, Cell.int i4, c5], .agg [Cell.int i6, Cell.int i7, Cell.int i8, c9]] [] = some r := lim_of ((fcv_eq k i1 i2 i3 i4 c5 i6 i7 i8 c9).trans h)
noncomputable def pl_fcx : List (Nat × Run) := [(fid_fdr, run_fdr), (fid_fdh, run_fdh), (fid_fcv, run_fcv)]
noncomputable def G_fcx : Ctx := ctx tyTab fiTab pl_fcx
noncomputable def run_fcx : Run := lim G_fcx fid_fcx
theorem ok_fcx : FnOk Tryz.prog OkT fid_fcx run_fcx := lim_ok (l := pl_fcx) Tryz_mix tyTab_ok fiTab_ok okT (.cons ok_fdr (.cons ok_fdh (.cons ok_fcv .nil))) fid_fcx
noncomputable def fcx_l1 (k m : Nat) (b_l0 : Cell → Int → Int → Int → Int → Cell → Option Res) : Nat → Cell → Int → Bool → Bool → Int → Int → Int → Int → Cell → Option Res
  | 0, _, _, _, _, _, _, _, _, _ => none
  | n + 1, c16, i17, b18, b19, i20, i21, i22, i23, c24 =>
    (idxA 1 (c16) i17).bind fun c25 =>
    (deref [] (c25)).bind fun p26 =>
    (cC p26.1 p26.2).bind fun c27 =>
    (lenC c27).bind fun n28 =>
    cond (decide (i20 < (n28 : Int)))
    (cond b18
    ((idxA 1 (c16) i17).bind fun c29 =>
    (deref [] (c29)).bind fun p30 =>
    (cC p30.1 p30.2).bind fun c31 =>
    (idxA 5 (c31) i20).bind fun c32 =>
    (deref [] (c32)).bind fun p33 =>
    (cI .i64 p33.1 p33.2).bind fun i34 =>
    (cI .i64 p33.1 (p33.2 + 1)).bind fun i35 =>
    (cI .i64 p33.1 ((p33.2 + 1) + 1)).bind fun i36 =>
    (cI .i64 p33.1 (((p33.2 + 1) + 1) + 1)).bind fun i37 =>
    (cC p33.1 ((((p33.2 + 1) + 1) + 1) + 1)).bind fun c38 =>
    (callS run_fcv [.agg [Cell.int i34, Cell.int i35, Cell.int i36, Cell.int i37, c38], .agg [Cell.int i21, Cell.int i22, Cell.int i23, c24]] []).bind fun r39 =>
    cond (shapeOk rk_fcv r39)
    ((cB (cellsAt r39 0) 0).bind fun b40 =>
    cond b19
    (fcx_l1 k m b_l0 n (c16) i17 b40 true (IntKind.i64.wrap (i20 + 1)) i21 i22 i23 (c24))
    ((idxA 1 (c16) i17).bind fun c41 =>
    (deref [] (c41)).bind fun p42 =>
    (cC p42.1 p42.2).bind fun c43 =>
    (idxA 5 (c43) i20).bind fun c44 =>
    (fldA c44 1).bind fun c45 =>
    (fldA c45 3).bind fun c46 =>
    (deref [] (c46)).bind fun p47 =>
    (cC p47.1 p47.2).bind fun c48 =>
    (lenC c48).bind fun n49 =>
    cond (decide ((n49 : Int) > 0))
    ((idxA 1 (c16) i17).bind fun c50 =>
    (deref [] (c50)).bind fun p51 =>
    (cC p51.1 p51.2).bind fun c52 =>
    (idxA 5 (c52) i20).bind fun c53 =>
    (fldA c53 1).bind fun c54 =>
    (deref [] (c54)).bind fun p55 =>
    (cI .i64 p55.1 p55.2).bind fun i56 =>
    (cI .i64 p55.1 (p55.2 + 1)).bind fun i57 =>
    (cI .i64 p55.1 ((p55.2 + 1) + 1)).bind fun i58 =>
    (cC p55.1 (((p55.2 + 1) + 1) + 1)).bind fun c59 =>
    (callS run_fdr [.agg [Cell.int i56, Cell.int i57, Cell.int i58, c59], .agg [Cell.int i21, Cell.int i22, Cell.int i23, c24]] []).bind fun r60 =>
    cond (shapeOk rk_fdr r60)
    ((cB (cellsAt r60 0) 0).bind fun b61 =>
    fcx_l1 k m b_l0 n (c16) i17 b40 b61 (IntKind.i64.wrap (i20 + 1)) i21 i22 i23 (c24))
    none)
    (fcx_l1 k m b_l0 n (c16) i17 b40 false (IntKind.i64.wrap (i20 + 1)) i21 i22 i23 (c24))))
    none)
    (cond b19
    (fcx_l1 k m b_l0 n (c16) i17 false true (IntKind.i64.wrap (i20 + 1)) i21 i22 i23 (c24))
    ((idxA 1 (c16) i17).bind fun c62 =>
    (deref [] (c62)).bind fun p63 =>
    (cC p63.1 p63.2).bind fun c64 =>
    (idxA 5 (c64) i20).bind fun c65 =>
    (fldA c65 1).bind fun c66 =>
    (fldA c66 3).bind fun c67 =>
    (deref [] (c67)).bind fun p68 =>
    (cC p68.1 p68.2).bind fun c69 =>
    (lenC c69).bind fun n70 =>
    cond (decide ((n70 : Int) > 0))
    ((idxA 1 (c16) i17).bind fun c71 =>
    (deref [] (c71)).bind fun p72 =>
    (cC p72.1 p72.2).bind fun c73 =>
    (idxA 5 (c73) i20).bind fun c74 =>
    (fldA c74 1).bind fun c75 =>
    (deref [] (c75)).bind fun p76 =>
    (cI .i64 p76.1 p76.2).bind fun i77 =>
    (cI .i64 p76.1 (p76.2 + 1)).bind fun i78 =>
    (cI .i64 p76.1 ((p76.2 + 1) + 1)).bind fun i79 =>
    (cC p76.1 (((p76.2 + 1) + 1) + 1)).bind fun c80 =>
    (callS run_fdr [.agg [Cell.int i77, Cell.int i78, Cell.int i79, c80], .agg [Cell.int i21, Cell.int i22, Cell.int i23, c24]] []).bind fun r81 =>
    cond (shapeOk rk_fdr r81)
    ((cB (cellsAt r81 0) 0).bind fun b82 =>
    fcx_l1 k m b_l0 n (c16) i17 false b82 (IntKind.i64.wrap (i20 + 1)) i21 i22 i23 (c24))
    none)
    (fcx_l1 k m b_l0 n (c16) i17 false false (IntKind.i64.wrap (i20 + 1)) i21 i22 i23 (c24)))))
    (cond b18
    (cond b19
    (some ([.one (Cell.bool true)], []))
    (b_l0 (c16) (IntKind.i64.wrap (i17 + 1)) i21 i22 i23 (c24)))
    (b_l0 (c16) (IntKind.i64.wrap (i17 + 1)) i21 i22 i23 (c24)))
noncomputable def fcx_l0 (k m : Nat) : Nat → Cell → Int → Int → Int → Int → Cell → Option Res
  | 0, _, _, _, _, _, _ => none
  | n + 1, c6, i7, i8, i9, i10, c11 =>
    (lenC c6).bind fun n12 =>
    cond (decide (i7 < (n12 : Int)))
    ((callS run_fdh [.agg [Cell.int i8, Cell.int i9, Cell.int i10, c11]] []).bind fun r13 =>
    cond (shapeOk rk_fdh r13)
    ((cB (cellsAt r13 0) 0).bind fun b14 =>
    (lenC c11).bind fun n15 =>
    fcx_l1 k m (fcx_l0 k m n) m (c6) i7 b14 ((n15 : Int) == 0) 0 i8 i9 i10 (c11))
    none)
    (some ([.one (Cell.bool false)], []))
noncomputable def fcx (k m : Nat) (c1 : Cell) (i2 : Int) (i3 : Int) (i4 : Int) (c5 : Cell) : Option Res :=
  fcx_l0 k m m (c1) 0 i2 i3 i4 (c5)
noncomputable abbrev fcx_l0_B (k m : Nat) : (Ex → Fr → Option Res) → Fr → Option Res := evC G_fcx fi_fcx (evF G_fcx (k + 1)) m (sub [1, 0, 1, 2, 3] fi_fcx.code) none
noncomputable abbrev fcx_l0_K (k m : Nat) : Ex → Fr → Option Res := blockK 0 (seqK (evC G_fcx fi_fcx (evF G_fcx (k + 1)) m (sub [1, 1] fi_fcx.code) none) (retK G_fcx fi_fcx))
noncomputable abbrev fcx_l1_B (k m : Nat) : (Ex → Fr → Option Res) → Fr → Option Res := evC G_fcx fi_fcx (evF G_fcx (k + 1)) m (sub [1, 0, 1, 2, 3, 1, 0, 2, 1, 1, 0, 1, 2, 3] fi_fcx.code) none
noncomputable abbrev fcx_l1_K (k m : Nat) (n_l0 : Nat) : Ex → Fr → Option Res := blockK 2 (seqK (evC G_fcx fi_fcx (evF G_fcx (k + 1)) m (sub [1, 0, 1, 2, 3, 1, 0, 2, 1, 1, 1] fi_fcx.code) none) (blockK 1 (seqK (evC G_fcx fi_fcx (evF G_fcx (k + 1)) m (sub [1, 0, 1, 2, 3, 1, 1] fi_fcx.code) none) (loopE (fun s => loopK (some [0, 3, 5]) (fcx_l0_B k m) (fcx_l0_K k m) n_l0 (keepS (some [0, 3, 5]) s)) (fcx_l0_K k m)))))
theorem fcx_l1_eq (k m : Nat) (b_l0 : Cell → Int → Int → Int → Int → Cell → Option Res) (n_l0 : Nat) (h_l0 : ∀ (c6 : Cell) (i7 : Int) (i8 : Int) (i9 : Int) (i10 : Int) (c11 : Cell), loopK (some [0, 3, 5]) (fcx_l0_B k m) (fcx_l0_K k m) n_l0 ⟨fT 72 0 [(0, .av (.one (c6))), (3, .loc 3 0), (5, .av (.one (Cell.int i7)))], fX 72 0 [(3, [Cell.int i8, Cell.int i9, Cell.int i10, c11])], []⟩ = b_l0 c6 i7 i8 i9 i10 c11) : ∀ (n : Nat) (c16 : Cell) (i17 : Int) (b18 : Bool) (b19 : Bool) (i20 : Int) (i21 : Int) (i22 : Int) (i23 : Int) (c24 : Cell), loopK (some [0, 3, 5, 6, 7, 8]) (fcx_l1_B k m) (fcx_l1_K k m n_l0) n ⟨fT 72 0 [(0, .av (.one (c16))), (3, .loc 3 0), (5, .av (.one (Cell.int i17))), (6, .av (.one (Cell.bool b18))), (7, .av (.one (Cell.bool b19))), (8, .av (.one (Cell.int i20)))], fX 72 0 [(3, [Cell.int i21, Cell.int i22, Cell.int i23, c24])], []⟩ = fcx_l1 (k + 1) m b_l0 n c16 i17 b18 b19 i20 i21 i22 i23 c24 := by
  intro n
  induction n with
  | zero => intros; rfl
  | succ n ih =>
    intros
    simp only [fcx_l1, ← h_l0, ← ih]
    kernel_rfl
theorem fcx_l0_eq (k m : Nat) : ∀ (n : Nat) (c6 : Cell) (i7 : Int) (i8 : Int) (i9 : Int) (i10 : Int) (c11 : Cell), loopK (some [0, 3, 5]) (fcx_l0_B k m) (fcx_l0_K k m) n ⟨fT 72 0 [(0, .av (.one (c6))), (3, .loc 3 0), (5, .av (.one (Cell.int i7)))], fX 72 0 [(3, [Cell.int i8, Cell.int i9, Cell.int i10, c11])], []⟩ = fcx_l0 (k + 1) m n c6 i7 i8 i9 i10 c11 := by
  intro n
  induction n with
  | zero => intros; rfl
  | succ n ih =>
    intros
    simp only [fcx_l0, ← fcx_l1_eq k m _ _ (ih)]
    kernel_rfl
theorem fcx_code (k m : Nat) (c1 : Cell) (i2 : Int) (i3 : Int) (i4 : Int) (c5 : Cell) : evC G_fcx fi_fcx (evF G_fcx (k + 1)) m fi_fcx.code none (retK G_fcx fi_fcx) (enter fi_fcx [.one (c1), .agg [Cell.int i2, Cell.int i3, Cell.int i4, c5]] []) = fcx (k + 1) m c1 i2 i3 i4 c5 := by
  simp only [fcx, ← fcx_l0_eq k m]
  kernel_rfl
theorem fcx_eq (k : Nat) (c1 : Cell) (i2 : Int) (i3 : Int) (i4 : Int) (c5 : Cell) : evF G_fcx (k + 2) fid_fcx [.one (c1), .agg [Cell.int i2, Cell.int i3, Cell.int i4, c5]] [] = fcx (k + 1) (k + 1) c1 i2 i3 i4 c5 :=
  Eq.trans (by kernel_rfl) (fcx_code k (k + 1) c1 i2 i3 i4 c5)
theorem run_fcx_of {c1 : Cell} {i2 : Int} {i3 : Int} {i4 : Int} {c5 : Cell} {r : Res} (k : Nat) (h : fcx (k + 1) (k + 1) c1 i2 i3 i4 c5 = some r) : run_fcx [.one (c1), .agg [Cell.int i2, Cell.int i3, Cell.int i4, c5]] [] = some r := lim_of ((fcx_eq k c1 i2 i3 i4 c5).trans h)
noncomputable def pl_fcz : List (Nat × Run) := [(fid_fdb, run_fdb), (fid_fcx, run_fcx)]
noncomputable def G_fcz : Ctx := ctx tyTab fiTab pl_fcz
noncomputable def run_fcz : Run := lim G_fcz fid_fcz
theorem ok_fcz : FnOk Tryz.prog OkT fid_fcz run_fcz := lim_ok (l := pl_fcz) Tryz_mix tyTab_ok fiTab_ok okT (.cons ok_fdb (.cons ok_fcx .nil)) fid_fcz
noncomputable def fcz (k m : Nat) (s1 : ByteArray) (s2 : ByteArray) (i3 : Int) (i4 : Int) (i5 : Int) (c6 : Cell) : Option Res :=
  (callL run_fdb [.one (Cell.str s2)] []).bind fun r7 =>
  cond (shapeOk rk_fdb r7.1)
  ((cC (cellsAt r7.1 0) 0).bind fun c8 =>
  (cB (cellsAt r7.1 1) 0).bind fun b9 =>
  cond b9
  ((callS run_fcx [.one (c8), .agg [Cell.int i3, Cell.int i4, Cell.int i5, c6]] r7.2).bind fun r10 =>
  cond (shapeOk rk_fcx r10)
  ((cB (cellsAt r10 0) 0).bind fun b11 =>
  some ([.one (Cell.bool b11)], r7.2))
  none)
  (some ([.one (Cell.bool false)], r7.2)))
  none
theorem fcz_code (k m : Nat) (s1 : ByteArray) (s2 : ByteArray) (i3 : Int) (i4 : Int) (i5 : Int) (c6 : Cell) : evC G_fcz fi_fcz (evF G_fcz (k + 1)) m fi_fcz.code none (retK G_fcz fi_fcz) (enter fi_fcz [.agg [Cell.str s1, Cell.str s2], .agg [Cell.int i3, Cell.int i4, Cell.int i5, c6]] []) = fcz (k + 1) m s1 s2 i3 i4 i5 c6 := by
  kernel_rfl
theorem fcz_eq (k : Nat) (s1 : ByteArray) (s2 : ByteArray) (i3 : Int) (i4 : Int) (i5 : Int) (c6 : Cell) : evF G_fcz (k + 2) fid_fcz [.agg [Cell.str s1, Cell.str s2], .agg [Cell.int i3, Cell.int i4, Cell.int i5, c6]] [] = fcz (k + 1) (k + 1) s1 s2 i3 i4 i5 c6 :=
  Eq.trans (by kernel_rfl) (fcz_code k (k + 1) s1 s2 i3 i4 i5 c6)
theorem run_fcz_of {s1 : ByteArray} {s2 : ByteArray} {i3 : Int} {i4 : Int} {i5 : Int} {c6 : Cell} {r : Res} (k : Nat) (h : fcz (k + 1) (k + 1) s1 s2 i3 i4 i5 c6 = some r) : run_fcz [.agg [Cell.str s1, Cell.str s2], .agg [Cell.int i3, Cell.int i4, Cell.int i5, c6]] [] = some r := lim_of ((fcz_eq k s1 s2 i3 i4 i5 c6).trans h)
noncomputable def pl_fef : List (Nat × Run) := [(fid_fdd, run_fdd), (fid_fcz, run_fcz)]
noncomputable def G_fef : Ctx := ctx tyTab fiTab pl_fef
noncomputable def run_fef : Run := lim G_fef fid_fef
theorem ok_fef : FnOk Tryz.prog OkT fid_fef run_fef := lim_ok (l := pl_fef) Tryz_mix tyTab_ok fiTab_ok okT (.cons ok_fdd (.cons ok_fcz .nil)) fid_fef
noncomputable def fef_l0 (k m : Nat) : Nat → Cell → Cell → Int → List Entry → Option Res
  | 0, _, _, _, _ => none
  | n + 1, c3, c4, i5, H6 =>
    (lenC c3).bind fun n7 =>
    cond (decide (i5 < (n7 : Int)))
    ((idxA 2 (c3) i5).bind fun c8 =>
    (fldA c8 0).bind fun c9 =>
    (deref H6 (c9)).bind fun p10 =>
    (cS p10.1 p10.2).bind fun s11 =>
    (callL run_fdd [.one (c4), .one (Cell.str s11)] H6).bind fun r12 =>
    cond (shapeOk rk_fdd r12.1)
    ((cI .i64 (cellsAt r12.1 0) 0).bind fun i13 =>
    (cI .i64 (cellsAt r12.1 0) 1).bind fun i14 =>
    (cI .i64 (cellsAt r12.1 0) 2).bind fun i15 =>
    (cC (cellsAt r12.1 0) 3).bind fun c16 =>
    (cB (cellsAt r12.1 1) 0).bind fun b17 =>
    cond (!b17)
    (some ([.one (Cell.bool false)], r12.2))
    ((idxA 2 (c3) i5).bind fun c18 =>
    (deref r12.2 (c18)).bind fun p19 =>
    (cS p19.1 p19.2).bind fun s20 =>
    (cS p19.1 (p19.2 + 1)).bind fun s21 =>
    (callS run_fcz [.agg [Cell.str s20, Cell.str s21], .agg [Cell.int i13, Cell.int i14, Cell.int i15, c16]] r12.2).bind fun r22 =>
    cond (shapeOk rk_fcz r22)
    ((cB (cellsAt r22 0) 0).bind fun b23 =>
    cond (!b23)
    (some ([.one (Cell.bool false)], r12.2))
    (fef_l0 k m n (c3) (c4) (IntKind.i64.wrap (i5 + 1)) r12.2))
    none))
    none)
    (some ([.one (Cell.bool true)], H6))
noncomputable def fef (k m : Nat) (c1 : Cell) (c2 : Cell) : Option Res :=
  fef_l0 k m m (c1) (c2) 0 []
noncomputable abbrev fef_l0_B (k m : Nat) : (Ex → Fr → Option Res) → Fr → Option Res := evC G_fef fi_fef (evF G_fef (k + 1)) m (sub [1, 0, 1, 2, 3] fi_fef.code) none
noncomputable abbrev fef_l0_K (k m : Nat) : Ex → Fr → Option Res := blockK 0 (seqK (evC G_fef fi_fef (evF G_fef (k + 1)) m (sub [1, 1] fi_fef.code) none) (retK G_fef fi_fef))
theorem fef_l0_eq (k m : Nat) : ∀ (n : Nat) (c3 : Cell) (c4 : Cell) (i5 : Int) (H6 : List Entry), loopK (some [0, 1, 5]) (fef_l0_B k m) (fef_l0_K k m) n ⟨fT 35 0 [(0, .av (.one (c3))), (1, .av (.one (c4))), (5, .av (.one (Cell.int i5)))], fX 35 0 [], H6⟩ = fef_l0 (k + 1) m n c3 c4 i5 H6 := by
  intro n
  induction n with
  | zero => intros; rfl
  | succ n ih =>
    intros
    simp only [fef_l0, ← ih]
    kernel_rfl
theorem fef_code (k m : Nat) (c1 : Cell) (c2 : Cell) : evC G_fef fi_fef (evF G_fef (k + 1)) m fi_fef.code none (retK G_fef fi_fef) (enter fi_fef [.one (c1), .one (c2)] []) = fef (k + 1) m c1 c2 := by
  simp only [fef, ← fef_l0_eq k m]
  kernel_rfl
theorem fef_eq (k : Nat) (c1 : Cell) (c2 : Cell) : evF G_fef (k + 2) fid_fef [.one (c1), .one (c2)] [] = fef (k + 1) (k + 1) c1 c2 :=
  Eq.trans (by kernel_rfl) (fef_code k (k + 1) c1 c2)
theorem run_fef_of {c1 : Cell} {c2 : Cell} {r : Res} (k : Nat) (h : fef (k + 1) (k + 1) c1 c2 = some r) : run_fef [.one (c1), .one (c2)] [] = some r := lim_of ((fef_eq k c1 c2).trans h)
noncomputable def pl_fee : List (Nat × Run) := [(fid_fdm, run_fdm)]
noncomputable def G_fee : Ctx := ctx tyTab fiTab pl_fee
noncomputable def run_fee : Run := lim G_fee fid_fee
theorem ok_fee : FnOk Tryz.prog OkT fid_fee run_fee := lim_ok (l := pl_fee) Tryz_mix tyTab_ok fiTab_ok okT (.cons ok_fdm .nil) fid_fee
noncomputable def fee (k m : Nat) (s1 : ByteArray) (i2 : Int) (i3 : Int) (i4 : Int) (c5 : Cell) (c6 : Cell) : Option Res :=
  (callL run_fdm [.agg [Cell.int i2, Cell.int i3, Cell.int i4, c5]] []).bind fun r7 =>
  cond (shapeOk rk_fdm r7.1)
  ((cI .i64 (cellsAt r7.1 0) 0).bind fun i8 =>
  (cI .i64 (cellsAt r7.1 0) 1).bind fun i9 =>
  (cI .i64 (cellsAt r7.1 0) 2).bind fun i10 =>
  (cC (cellsAt r7.1 0) 3).bind fun c11 =>
  emptyK r7.2
  ((srcRows [] 2 c6).bind fun r12 =>
  (app [] 2 32 (.lst true 2 []) r12).bind fun p13 =>
  some ([.agg [Cell.str s1, Cell.int i8, Cell.int i9, Cell.int i10, c11, p13.1]], p13.2)))
  none
theorem fee_code (k m : Nat) (s1 : ByteArray) (i2 : Int) (i3 : Int) (i4 : Int) (c5 : Cell) (c6 : Cell) : evC G_fee fi_fee (evF G_fee (k + 1)) m fi_fee.code none (retK G_fee fi_fee) (enter fi_fee [.agg [Cell.str s1, Cell.int i2, Cell.int i3, Cell.int i4, c5, c6]] []) = fee (k + 1) m s1 i2 i3 i4 c5 c6 := by
  kernel_rfl
theorem fee_eq (k : Nat) (s1 : ByteArray) (i2 : Int) (i3 : Int) (i4 : Int) (c5 : Cell) (c6 : Cell) : evF G_fee (k + 2) fid_fee [.agg [Cell.str s1, Cell.int i2, Cell.int i3, Cell.int i4, c5, c6]] [] = fee (k + 1) (k + 1) s1 i2 i3 i4 c5 c6 :=
  Eq.trans (by kernel_rfl) (fee_code k (k + 1) s1 i2 i3 i4 c5 c6)
theorem run_fee_of {s1 : ByteArray} {i2 : Int} {i3 : Int} {i4 : Int} {c5 : Cell} {c6 : Cell} {r : Res} (k : Nat) (h : fee (k + 1) (k + 1) s1 i2 i3 i4 c5 c6 = some r) : run_fee [.agg [Cell.str s1, Cell.int i2, Cell.int i3, Cell.int i4, c5, c6]] [] = some r := lim_of ((fee_eq k s1 i2 i3 i4 c5 c6).trans h)
noncomputable def pl_fcw : List (Nat × Run) := [(fid_fde, run_fde), (fid_fee, run_fee)]
noncomputable def G_fcw : Ctx := ctx tyTab fiTab pl_fcw
noncomputable def run_fcw : Run := lim G_fcw fid_fcw
theorem ok_fcw : FnOk Tryz.prog OkT fid_fcw run_fcw := lim_ok (l := pl_fcw) Tryz_mix tyTab_ok fiTab_ok okT (.cons ok_fde (.cons ok_fee .nil)) fid_fcw
noncomputable def fcw_l0 (k m : Nat) : Nat → Cell → ByteArray → Int → Int → Int → Int → Cell → Option Res
  | 0, _, _, _, _, _, _, _ => none
  | n + 1, c7, s8, i9, i10, i11, i12, c13 =>
    (lenC c7).bind fun n14 =>
    cond (decide (i9 < (n14 : Int)))
    ((idxA 6 (c7) i9).bind fun c15 =>
    (fldA c15 0).bind fun c16 =>
    (deref [] (c16)).bind fun p17 =>
    (cS p17.1 p17.2).bind fun s18 =>
    cond (s18.toList == s8.toList)
    ((idxA 6 (c7) i9).bind fun c19 =>
    (fldA c19 1).bind fun c20 =>
    (deref [] (c20)).bind fun p21 =>
    (cI .i64 p21.1 p21.2).bind fun i22 =>
    (cI .i64 p21.1 (p21.2 + 1)).bind fun i23 =>
    (cI .i64 p21.1 ((p21.2 + 1) + 1)).bind fun i24 =>
    (cC p21.1 (((p21.2 + 1) + 1) + 1)).bind fun c25 =>
    (callS run_fde [.agg [Cell.int i22, Cell.int i23, Cell.int i24, c25], .agg [Cell.int i10, Cell.int i11, Cell.int i12, c13]] []).bind fun r26 =>
    cond (shapeOk rk_fde r26)
    ((cB (cellsAt r26 0) 0).bind fun b27 =>
    cond b27
    ((idxA 6 (c7) i9).bind fun c28 =>
    (deref [] (c28)).bind fun p29 =>
    (cS p29.1 p29.2).bind fun s30 =>
    (cI .i64 p29.1 (p29.2 + 1)).bind fun i31 =>
    (cI .i64 p29.1 ((p29.2 + 1) + 1)).bind fun i32 =>
    (cI .i64 p29.1 (((p29.2 + 1) + 1) + 1)).bind fun i33 =>
    (cC p29.1 ((((p29.2 + 1) + 1) + 1) + 1)).bind fun c34 =>
    (cC p29.1 (((((p29.2 + 1) + 1) + 1) + 1) + 1)).bind fun c35 =>
    (callL run_fee [.agg [Cell.str s30, Cell.int i31, Cell.int i32, Cell.int i33, c34, c35]] []).bind fun r36 =>
    cond (shapeOk rk_fee r36.1)
    ((cS (cellsAt r36.1 0) 0).bind fun s37 =>
    (cI .i64 (cellsAt r36.1 0) 1).bind fun i38 =>
    (cI .i64 (cellsAt r36.1 0) 2).bind fun i39 =>
    (cI .i64 (cellsAt r36.1 0) 3).bind fun i40 =>
    (cC (cellsAt r36.1 0) 4).bind fun c41 =>
    (cC (cellsAt r36.1 0) 5).bind fun c42 =>
    some ([.agg [Cell.str s37, Cell.int i38, Cell.int i39, Cell.int i40, c41, c42], .one (Cell.bool true)], r36.2))
    none)
    (fcw_l0 k m n (c7) s8 (IntKind.i64.wrap (i9 + 1)) i10 i11 i12 (c13)))
    none)
    (fcw_l0 k m n (c7) s8 (IntKind.i64.wrap (i9 + 1)) i10 i11 i12 (c13)))
    (some ([.agg [Cell.str (bs []), Cell.int 0, Cell.int 0, Cell.int 0, .lst true 1 [], .lst true 2 []], .one (Cell.bool false)], []))
noncomputable def fcw (k m : Nat) (c1 : Cell) (s2 : ByteArray) (i3 : Int) (i4 : Int) (i5 : Int) (c6 : Cell) : Option Res :=
  fcw_l0 k m m (c1) s2 0 i3 i4 i5 (c6)
noncomputable abbrev fcw_l0_B (k m : Nat) : (Ex → Fr → Option Res) → Fr → Option Res := evC G_fcw fi_fcw (evF G_fcw (k + 1)) m (sub [1, 0, 1, 2, 3] fi_fcw.code) none
noncomputable abbrev fcw_l0_K (k m : Nat) : Ex → Fr → Option Res := blockK 0 (seqK (evC G_fcw fi_fcw (evF G_fcw (k + 1)) m (sub [1, 1] fi_fcw.code) none) (retK G_fcw fi_fcw))
theorem fcw_l0_eq (k m : Nat) : ∀ (n : Nat) (c7 : Cell) (s8 : ByteArray) (i9 : Int) (i10 : Int) (i11 : Int) (i12 : Int) (c13 : Cell), loopK (some [0, 1, 5, 6, 8]) (fcw_l0_B k m) (fcw_l0_K k m) n ⟨fT 37 0 [(0, .av (.one (c7))), (1, .av (.one (Cell.str s8))), (5, .loc 5 0), (6, .loc 6 0), (8, .av (.one (Cell.int i9)))], fX 37 0 [(5, [Cell.int i10, Cell.int i11, Cell.int i12, c13]), (6, [Cell.str (bs []), Cell.int 0, Cell.int 0, Cell.int 0, .lst true 1 [], .lst true 2 []])], []⟩ = fcw_l0 (k + 1) m n c7 s8 i9 i10 i11 i12 c13 := by
  intro n
  induction n with
  | zero => intros; rfl
  | succ n ih =>
    intros
    simp only [fcw_l0, ← ih]
    kernel_rfl
theorem fcw_code (k m : Nat) (c1 : Cell) (s2 : ByteArray) (i3 : Int) (i4 : Int) (i5 : Int) (c6 : Cell) : evC G_fcw fi_fcw (evF G_fcw (k + 1)) m fi_fcw.code none (retK G_fcw fi_fcw) (enter fi_fcw [.one (c1), .one (Cell.str s2), .agg [Cell.int i3, Cell.int i4, Cell.int i5, c6]] []) = fcw (k + 1) m c1 s2 i3 i4 i5 c6 := by
  simp only [fcw, ← fcw_l0_eq k m]
  kernel_rfl
theorem fcw_eq (k : Nat) (c1 : Cell) (s2 : ByteArray) (i3 : Int) (i4 : Int) (i5 : Int) (c6 : Cell) : evF G_fcw (k + 2) fid_fcw [.one (c1), .one (Cell.str s2), .agg [Cell.int i3, Cell.int i4, Cell.int i5, c6]] [] = fcw (k + 1) (k + 1) c1 s2 i3 i4 i5 c6 :=
  Eq.trans (by kernel_rfl) (fcw_code k (k + 1) c1 s2 i3 i4 i5 c6)
theorem run_fcw_of {c1 : Cell} {s2 : ByteArray} {i3 : Int} {i4 : Int} {i5 : Int} {c6 : Cell} {r : Res} (k : Nat) (h : fcw (k + 1) (k + 1) c1 s2 i3 i4 i5 c6 = some r) : run_fcw [.one (c1), .one (Cell.str s2), .agg [Cell.int i3, Cell.int i4, Cell.int i5, c6]] [] = some r := lim_of ((fcw_eq k c1 s2 i3 i4 i5 c6).trans h)
noncomputable def pl_fdf : List (Nat × Run) := [(fid_fef, run_fef), (fid_fcw, run_fcw)]
noncomputable def G_fdf : Ctx := ctx tyTab fiTab pl_fdf
noncomputable def run_fdf : Run := lim G_fdf fid_fdf
theorem ok_fdf : FnOk Tryz.prog OkT fid_fdf run_fdf := lim_ok (l := pl_fdf) Tryz_mix tyTab_ok fiTab_ok okT (.cons ok_fef (.cons ok_fcw .nil)) fid_fdf
noncomputable def fdf_l1 (k m : Nat) (b_l0 : Cell → Cell → Int → List Entry → Option Res) : Nat → Cell → Cell → Int → Int → List Entry → Option Res
  | 0, _, _, _, _, _ => none
  | n + 1, c32, c33, i34, i35, H36 =>
    cond (decide (i35 < i34))
    ((idxA 5 (c33) i35).bind fun c37 =>
    (fldA c37 0).bind fun c38 =>
    (deref H36 (c38)).bind fun p39 =>
    (cS p39.1 p39.2).bind fun s40 =>
    (idxA 5 (c33) i34).bind fun c41 =>
    (fldA c41 0).bind fun c42 =>
    (deref H36 (c42)).bind fun p43 =>
    (cS p43.1 p43.2).bind fun s44 =>
    cond (s40.toList == s44.toList)
    (some ([.one (Cell.bool false)], H36))
    (fdf_l1 k m b_l0 n (c32) (c33) i34 (IntKind.i64.wrap (i35 + 1)) H36))
    (b_l0 (c32) (c33) (IntKind.i64.wrap (i34 + 1)) H36)
noncomputable def fdf_l0 (k m : Nat) : Nat → Cell → Cell → Int → List Entry → Option Res
  | 0, _, _, _, _ => none
  | n + 1, c6, c7, i8, H9 =>
    (lenC c7).bind fun n10 =>
    cond (decide (i8 < (n10 : Int)))
    ((idxA 5 (c7) i8).bind fun c11 =>
    (fldA c11 0).bind fun c12 =>
    (deref H9 (c12)).bind fun p13 =>
    (cS p13.1 p13.2).bind fun s14 =>
    (idxA 5 (c7) i8).bind fun c15 =>
    (fldA c15 1).bind fun c16 =>
    (deref H9 (c16)).bind fun p17 =>
    (cI .i64 p17.1 p17.2).bind fun i18 =>
    (cI .i64 p17.1 (p17.2 + 1)).bind fun i19 =>
    (cI .i64 p17.1 ((p17.2 + 1) + 1)).bind fun i20 =>
    (cC p17.1 (((p17.2 + 1) + 1) + 1)).bind fun c21 =>
    (callL run_fcw [.one (c6), .one (Cell.str s14), .agg [Cell.int i18, Cell.int i19, Cell.int i20, c21]] H9).bind fun r22 =>
    cond (shapeOk rk_fcw r22.1)
    ((cS (cellsAt r22.1 0) 0).bind fun s23 =>
    (cI .i64 (cellsAt r22.1 0) 1).bind fun i24 =>
    (cI .i64 (cellsAt r22.1 0) 2).bind fun i25 =>
    (cI .i64 (cellsAt r22.1 0) 3).bind fun i26 =>
    (cC (cellsAt r22.1 0) 4).bind fun c27 =>
    (cC (cellsAt r22.1 0) 5).bind fun c28 =>
    (cB (cellsAt r22.1 1) 0).bind fun b29 =>
    cond (!b29)
    (some ([.one (Cell.bool false)], r22.2))
    ((callS run_fef [.one (c28), .one (c7)] r22.2).bind fun r30 =>
    cond (shapeOk rk_fef r30)
    ((cB (cellsAt r30 0) 0).bind fun b31 =>
    cond (!b31)
    (some ([.one (Cell.bool false)], r22.2))
    (fdf_l1 k m (fdf_l0 k m n) m (c6) (c7) i8 0 r22.2))
    none))
    none)
    (some ([.one (Cell.bool true)], H9))
noncomputable def fdf (k m : Nat) (c1 : Cell) (c2 : Cell) (c3 : Cell) : Option Res :=
  (callS run_fef [.one (c2), .one (c3)] []).bind fun r4 =>
  cond (shapeOk rk_fef r4)
  ((cB (cellsAt r4 0) 0).bind fun b5 =>
  cond (!b5)
  (some ([.one (Cell.bool false)], []))
  (fdf_l0 k m m (c1) (c3) 0 []))
  none
noncomputable abbrev fdf_l0_B (k m : Nat) : (Ex → Fr → Option Res) → Fr → Option Res := evC G_fdf fi_fdf (evF G_fdf (k + 1)) m (sub [1, 1, 0, 1, 2, 3] fi_fdf.code) none
noncomputable abbrev fdf_l0_K (k m : Nat) : Ex → Fr → Option Res := blockK 0 (seqK (evC G_fdf fi_fdf (evF G_fdf (k + 1)) m (sub [1, 1, 1] fi_fdf.code) none) (retK G_fdf fi_fdf))
noncomputable abbrev fdf_l1_B (k m : Nat) : (Ex → Fr → Option Res) → Fr → Option Res := evC G_fdf fi_fdf (evF G_fdf (k + 1)) m (sub [1, 1, 0, 1, 2, 3, 1, 0, 2, 1, 1, 1, 2, 3] fi_fdf.code) none
noncomputable abbrev fdf_l1_K (k m : Nat) (n_l0 : Nat) : Ex → Fr → Option Res := blockK 2 (blockK 1 (seqK (evC G_fdf fi_fdf (evF G_fdf (k + 1)) m (sub [1, 1, 0, 1, 2, 3, 1, 1] fi_fdf.code) none) (loopE (fun s => loopK (some [0, 2, 7]) (fdf_l0_B k m) (fdf_l0_K k m) n_l0 (keepS (some [0, 2, 7]) s)) (fdf_l0_K k m))))
theorem fdf_l1_eq (k m : Nat) (b_l0 : Cell → Cell → Int → List Entry → Option Res) (n_l0 : Nat) (h_l0 : ∀ (c6 : Cell) (c7 : Cell) (i8 : Int) (H9 : List Entry), loopK (some [0, 2, 7]) (fdf_l0_B k m) (fdf_l0_K k m) n_l0 ⟨fT 61 0 [(0, .av (.one (c6))), (2, .av (.one (c7))), (7, .av (.one (Cell.int i8)))], fX 61 0 [], H9⟩ = b_l0 c6 c7 i8 H9) : ∀ (n : Nat) (c32 : Cell) (c33 : Cell) (i34 : Int) (i35 : Int) (H36 : List Entry), loopK (some [0, 2, 7, 10]) (fdf_l1_B k m) (fdf_l1_K k m n_l0) n ⟨fT 61 0 [(0, .av (.one (c32))), (2, .av (.one (c33))), (7, .av (.one (Cell.int i34))), (10, .av (.one (Cell.int i35)))], fX 61 0 [], H36⟩ = fdf_l1 (k + 1) m b_l0 n c32 c33 i34 i35 H36 := by
  intro n
  induction n with
  | zero => intros; rfl
  | succ n ih =>
    intros
    simp only [fdf_l1, ← h_l0, ← ih]
    kernel_rfl
theorem fdf_l0_eq (k m : Nat) : ∀ (n : Nat) (c6 : Cell) (c7 : Cell) (i8 : Int) (H9 : List Entry), loopK (some [0, 2, 7]) (fdf_l0_B k m) (fdf_l0_K k m) n ⟨fT 61 0 [(0, .av (.one (c6))), (2, .av (.one (c7))), (7, .av (.one (Cell.int i8)))], fX 61 0 [], H9⟩ = fdf_l0 (k + 1) m n c6 c7 i8 H9 := by
  intro n
  induction n with
  | zero => intros; rfl
  | succ n ih =>
    intros
    simp only [fdf_l0, ← fdf_l1_eq k m _ _ (ih)]
    kernel_rfl
theorem fdf_code (k m : Nat) (c1 : Cell) (c2 : Cell) (c3 : Cell) : evC G_fdf fi_fdf (evF G_fdf (k + 1)) m fi_fdf.code none (retK G_fdf fi_fdf) (enter fi_fdf [.one (c1), .one (c2), .one (c3)] []) = fdf (k + 1) m c1 c2 c3 := by
  simp only [fdf, ← fdf_l0_eq k m]
  kernel_rfl
theorem fdf_eq (k : Nat) (c1 : Cell) (c2 : Cell) (c3 : Cell) : evF G_fdf (k + 2) fid_fdf [.one (c1), .one (c2), .one (c3)] [] = fdf (k + 1) (k + 1) c1 c2 c3 :=
  Eq.trans (by kernel_rfl) (fdf_code k (k + 1) c1 c2 c3)
theorem run_fdf_of {c1 : Cell} {c2 : Cell} {c3 : Cell} {r : Res} (k : Nat) (h : fdf (k + 1) (k + 1) c1 c2 c3 = some r) : run_fdf [.one (c1), .one (c2), .one (c3)] [] = some r := lim_of ((fdf_eq k c1 c2 c3).trans h)
noncomputable def pl_fcl : List (Nat × Run) := []
noncomputable def G_fcl : Ctx := ctx tyTab fiTab pl_fcl
noncomputable def run_fcl : Run := lim G_fcl fid_fcl
theorem ok_fcl : FnOk Tryz.prog OkT fid_fcl run_fcl := lim_ok (l := pl_fcl) Tryz_mix tyTab_ok fiTab_ok okT .nil fid_fcl
noncomputable def fcl (k m : Nat) (s1 : ByteArray) (s2 : ByteArray) : Option Res :=
  some ([.agg [Cell.str s1, Cell.str s2]], [])
theorem fcl_code (k m : Nat) (s1 : ByteArray) (s2 : ByteArray) : evC G_fcl fi_fcl (evF G_fcl (k + 1)) m fi_fcl.code none (retK G_fcl fi_fcl) (enter fi_fcl [.agg [Cell.str s1, Cell.str s2]] []) = fcl (k + 1) m s1 s2 := by
  kernel_rfl
theorem fcl_eq (k : Nat) (s1 : ByteArray) (s2 : ByteArray) : evF G_fcl (k + 2) fid_fcl [.agg [Cell.str s1, Cell.str s2]] [] = fcl (k + 1) (k + 1) s1 s2 :=
  Eq.trans (by kernel_rfl) (fcl_code k (k + 1) s1 s2)
theorem run_fcl_of {s1 : ByteArray} {s2 : ByteArray} {r : Res} (k : Nat) (h : fcl (k + 1) (k + 1) s1 s2 = some r) : run_fcl [.agg [Cell.str s1, Cell.str s2]] [] = some r := lim_of ((fcl_eq k s1 s2).trans h)
end Go.Ev
