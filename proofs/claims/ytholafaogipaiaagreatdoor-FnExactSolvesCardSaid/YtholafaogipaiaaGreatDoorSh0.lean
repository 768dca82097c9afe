/- Conditions: none. -/
import Derived.Test.YtholafaogipaiaaGreatDoorEvPr
import Derived.KernelRfl
namespace Go.Ev
open Go Go.Proofs
set_option maxRecDepth 100000
set_option linter.unusedVariables false
set_option linter.unusedSimpArgs false
noncomputable def pl_fcd : List (Nat × Run) := []
noncomputable def G_fcd : Ctx := ctx tyTab fiTab pl_fcd
noncomputable def run_fcd : Run := lim G_fcd fid_fcd
theorem ok_fcd : FnOk Tryz.prog OkT fid_fcd run_fcd := lim_ok (l := pl_fcd) Tryz_mix tyTab_ok fiTab_ok okT .nil fid_fcd
noncomputable def fcd (k m : Nat) (s1 : ByteArray) (s2 : ByteArray) (i3 : Int) : Option Res :=
  cond (decide ((IntKind.i64.wrap (i3 - (s1.size : Int))) < 0))
  (some ([.one (Cell.int (-1))], []))
  (cond (decide ((IntKind.i64.wrap ((IntKind.i64.wrap (i3 - (s1.size : Int))) - (s2.size : Int))) < 0))
  (some ([.one (Cell.int (-1))], []))
  (some ([.one (Cell.int (IntKind.i64.wrap ((IntKind.i64.wrap (i3 - (s1.size : Int))) - (s2.size : Int))))], [])))
theorem fcd_code (k m : Nat) (s1 : ByteArray) (s2 : ByteArray) (i3 : Int) : evC G_fcd fi_fcd (evF G_fcd (k + 1)) m fi_fcd.code none (retK G_fcd fi_fcd) (enter fi_fcd [.agg [Cell.str s1, Cell.str s2], .one (Cell.int i3)] []) = fcd (k + 1) m s1 s2 i3 := by
  kernel_rfl
theorem fcd_eq (k : Nat) (s1 : ByteArray) (s2 : ByteArray) (i3 : Int) : evF G_fcd (k + 2) fid_fcd [.agg [Cell.str s1, Cell.str s2], .one (Cell.int i3)] [] = fcd (k + 1) (k + 1) s1 s2 i3 :=
  Eq.trans (by kernel_rfl) (fcd_code k (k + 1) s1 s2 i3)
theorem run_fcd_of {s1 : ByteArray} {s2 : ByteArray} {i3 : Int} {r : Res} (k : Nat) (h : fcd (k + 1) (k + 1) s1 s2 i3 = some r) : run_fcd [.agg [Cell.str s1, Cell.str s2], .one (Cell.int i3)] [] = some r := lim_of ((fcd_eq k s1 s2 i3).trans h)
noncomputable def pl_fce : List (Nat × Run) := [(fid_fcd, run_fcd)]
noncomputable def G_fce : Ctx := ctx tyTab fiTab pl_fce
noncomputable def run_fce : Run := lim G_fce fid_fce
theorem ok_fce : FnOk Tryz.prog OkT fid_fce run_fce := lim_ok (l := pl_fce) Tryz_mix tyTab_ok fiTab_ok okT (.cons ok_fcd .nil) fid_fce
noncomputable def fce_l0 (k m : Nat) : Nat → Cell → Int → Int → Option Res
  | 0, _, _, _ => none
  | n + 1, c4, i5, i6 =>
    (lenC c4).bind fun n7 =>
    cond (decide (i6 < (n7 : Int)))
    ((idxA 2 (c4) i6).bind fun c8 =>
    (deref [] (c8)).bind fun p9 =>
    (cS p9.1 p9.2).bind fun s10 =>
    (cS p9.1 (p9.2 + 1)).bind fun s11 =>
    (callS run_fcd [.agg [Cell.str s10, Cell.str s11], .one (Cell.int i5)] []).bind fun r12 =>
    cond (shapeOk rk_fcd r12)
    ((cI .i64 (cellsAt r12 0) 0).bind fun i13 =>
    cond (decide (i13 < 0))
    (some ([.one (Cell.int (-1))], []))
    (fce_l0 k m n (c4) i13 (IntKind.i64.wrap (i6 + 1))))
    none)
    (some ([.one (Cell.int i5)], []))
noncomputable def fce (k m : Nat) (c1 : Cell) (i2 : Int) : Option Res :=
  (lenC c1).bind fun n3 =>
  cond (decide ((IntKind.i64.wrap (i2 - (n3 : Int))) < 0))
  (some ([.one (Cell.int (-1))], []))
  (fce_l0 k m m (c1) (IntKind.i64.wrap (i2 - (n3 : Int))) 0)
noncomputable abbrev fce_l0_B (k m : Nat) : (Ex → Fr → Option Res) → Fr → Option Res := evC G_fce fi_fce (evF G_fce (k + 1)) m (sub [1, 1, 1, 0, 1, 2, 3] fi_fce.code) none
noncomputable abbrev fce_l0_K (k m : Nat) : Ex → Fr → Option Res := blockK 0 (seqK (evC G_fce fi_fce (evF G_fce (k + 1)) m (sub [1, 1, 1, 1] fi_fce.code) none) (retK G_fce fi_fce))
theorem fce_l0_eq (k m : Nat) : ∀ (n : Nat) (c4 : Cell) (i5 : Int) (i6 : Int), loopK (some [0, 1, 5]) (fce_l0_B k m) (fce_l0_K k m) n ⟨fT 27 0 [(0, .av (.one (c4))), (1, .av (.one (Cell.int i5))), (5, .av (.one (Cell.int i6)))], fX 27 0 [], []⟩ = fce_l0 (k + 1) m n c4 i5 i6 := by
  intro n
  induction n with
  | zero => intros; rfl
  | succ n ih =>
    intros
    simp only [fce_l0, ← ih]
    kernel_rfl
theorem fce_code (k m : Nat) (c1 : Cell) (i2 : Int) : evC G_fce fi_fce (evF G_fce (k + 1)) m fi_fce.code none (retK G_fce fi_fce) (enter fi_fce [.one (c1), .one (Cell.int i2)] []) = fce (k + 1) m c1 i2 := by
  simp only [fce, ← fce_l0_eq k m]
  kernel_rfl
theorem fce_eq (k : Nat) (c1 : Cell) (i2 : Int) : evF G_fce (k + 2) fid_fce [.one (c1), .one (Cell.int i2)] [] = fce (k + 1) (k + 1) c1 i2 :=
  Eq.trans (by kernel_rfl) (fce_code k (k + 1) c1 i2)
theorem run_fce_of {c1 : Cell} {i2 : Int} {r : Res} (k : Nat) (h : fce (k + 1) (k + 1) c1 i2 = some r) : run_fce [.one (c1), .one (Cell.int i2)] [] = some r := lim_of ((fce_eq k c1 i2).trans h)
noncomputable def pl_fch : List (Nat × Run) := []
noncomputable def G_fch : Ctx := ctx tyTab fiTab pl_fch
noncomputable def run_fch : Run := lim G_fch fid_fch
theorem ok_fch : FnOk Tryz.prog OkT fid_fch run_fch := lim_ok (l := pl_fch) Tryz_mix tyTab_ok fiTab_ok okT .nil fid_fch
noncomputable def fch_l0 (k m : Nat) : Nat → Cell → Int → Int → Option Res
  | 0, _, _, _ => none
  | n + 1, c4, i5, i6 =>
    (lenC c4).bind fun n7 =>
    cond (decide (i6 < (n7 : Int)))
    ((idxA 1 (c4) i6).bind fun c8 =>
    (deref [] (c8)).bind fun p9 =>
    (cS p9.1 p9.2).bind fun s10 =>
    cond (decide ((IntKind.i64.wrap (i5 - (s10.size : Int))) < 0))
    (some ([.one (Cell.int (-1))], []))
    (fch_l0 k m n (c4) (IntKind.i64.wrap (i5 - (s10.size : Int))) (IntKind.i64.wrap (i6 + 1))))
    (some ([.one (Cell.int i5)], []))
noncomputable def fch (k m : Nat) (c1 : Cell) (i2 : Int) : Option Res :=
  (lenC c1).bind fun n3 =>
  cond (decide ((IntKind.i64.wrap (i2 - (n3 : Int))) < 0))
  (some ([.one (Cell.int (-1))], []))
  (fch_l0 k m m (c1) (IntKind.i64.wrap (i2 - (n3 : Int))) 0)
noncomputable abbrev fch_l0_B (k m : Nat) : (Ex → Fr → Option Res) → Fr → Option Res := evC G_fch fi_fch (evF G_fch (k + 1)) m (sub [1, 1, 1, 0, 1, 2, 3] fi_fch.code) none
noncomputable abbrev fch_l0_K (k m : Nat) : Ex → Fr → Option Res := blockK 0 (seqK (evC G_fch fi_fch (evF G_fch (k + 1)) m (sub [1, 1, 1, 1] fi_fch.code) none) (retK G_fch fi_fch))
theorem fch_l0_eq (k m : Nat) : ∀ (n : Nat) (c4 : Cell) (i5 : Int) (i6 : Int), loopK (some [0, 1, 5]) (fch_l0_B k m) (fch_l0_K k m) n ⟨fT 28 0 [(0, .av (.one (c4))), (1, .av (.one (Cell.int i5))), (5, .av (.one (Cell.int i6)))], fX 28 0 [], []⟩ = fch_l0 (k + 1) m n c4 i5 i6 := by
  intro n
  induction n with
  | zero => intros; rfl
  | succ n ih =>
    intros
    simp only [fch_l0, ← ih]
    kernel_rfl
theorem fch_code (k m : Nat) (c1 : Cell) (i2 : Int) : evC G_fch fi_fch (evF G_fch (k + 1)) m fi_fch.code none (retK G_fch fi_fch) (enter fi_fch [.one (c1), .one (Cell.int i2)] []) = fch (k + 1) m c1 i2 := by
  simp only [fch, ← fch_l0_eq k m]
  kernel_rfl
theorem fch_eq (k : Nat) (c1 : Cell) (i2 : Int) : evF G_fch (k + 2) fid_fch [.one (c1), .one (Cell.int i2)] [] = fch (k + 1) (k + 1) c1 i2 :=
  Eq.trans (by kernel_rfl) (fch_code k (k + 1) c1 i2)
theorem run_fch_of {c1 : Cell} {i2 : Int} {r : Res} (k : Nat) (h : fch (k + 1) (k + 1) c1 i2 = some r) : run_fch [.one (c1), .one (Cell.int i2)] [] = some r := lim_of ((fch_eq k c1 i2).trans h)
noncomputable def pl_fci : List (Nat × Run) := [(fid_fch, run_fch)]
noncomputable def G_fci : Ctx := ctx tyTab fiTab pl_fci
noncomputable def run_fci : Run := lim G_fci fid_fci
theorem ok_fci : FnOk Tryz.prog OkT fid_fci run_fci := lim_ok (l := pl_fci) Tryz_mix tyTab_ok fiTab_ok okT (.cons ok_fch .nil) fid_fci
noncomputable def fci (k m : Nat) (i1 : Int) (i2 : Int) (i3 : Int) (c4 : Cell) (i5 : Int) : Option Res :=
  (callS run_fch [.one (c4), .one (Cell.int i5)] []).bind fun r6 =>
  cond (shapeOk rk_fch r6)
  ((cI .i64 (cellsAt r6 0) 0).bind fun i7 =>
  cond (decide (i7 < 0))
  (some ([.one (Cell.int (-1))], []))
  (some ([.one (Cell.int i7)], [])))
  none
theorem fci_code (k m : Nat) (i1 : Int) (i2 : Int) (i3 : Int) (c4 : Cell) (i5 : Int) : evC G_fci fi_fci (evF G_fci (k + 1)) m fi_fci.code none (retK G_fci fi_fci) (enter fi_fci [.agg [Cell.int i1, Cell.int i2, Cell.int i3, c4], .one (Cell.int i5)] []) = fci (k + 1) m i1 i2 i3 c4 i5 := by
  kernel_rfl
theorem fci_eq (k : Nat) (i1 : Int) (i2 : Int) (i3 : Int) (c4 : Cell) (i5 : Int) : evF G_fci (k + 2) fid_fci [.agg [Cell.int i1, Cell.int i2, Cell.int i3, c4], .one (Cell.int i5)] [] = fci (k + 1) (k + 1) i1 i2 i3 c4 i5 :=
  Eq.trans (by kernel_rfl) (fci_code k (k + 1) i1 i2 i3 c4 i5)
theorem run_fci_of {i1 : Int} {i2 : Int} {i3 : Int} {c4 : Cell} {i5 : Int} {r : Res} (k : Nat) (h : fci (k + 1) (k + 1) i1 i2 i3 c4 i5 = some r) : run_fci [.agg [Cell.int i1, Cell.int i2, Cell.int i3, c4], .one (Cell.int i5)] [] = some r := lim_of ((fci_eq k i1 i2 i3 c4 i5).trans h)
noncomputable def pl_fcb : List (Nat × Run) := [(fid_fce, run_fce), (fid_fci, run_fci)]
noncomputable def G_fcb : Ctx := ctx tyTab fiTab pl_fcb
noncomputable def run_fcb : Run := lim G_fcb fid_fcb
theorem ok_fcb : FnOk Tryz.prog OkT fid_fcb run_fcb := lim_ok (l := pl_fcb) Tryz_mix tyTab_ok fiTab_ok okT (.cons ok_fce (.cons ok_fci .nil)) fid_fcb
noncomputable def fcb (k m : Nat) (s1 : ByteArray) (i2 : Int) (i3 : Int) (i4 : Int) (c5 : Cell) (c6 : Cell) (i7 : Int) : Option Res :=
  cond (decide ((IntKind.i64.wrap (i7 - (s1.size : Int))) < 0))
  (some ([.one (Cell.int (-1))], []))
  ((callS run_fci [.agg [Cell.int i2, Cell.int i3, Cell.int i4, c5], .one (Cell.int (IntKind.i64.wrap (i7 - (s1.size : Int))))] []).bind fun r8 =>
  cond (shapeOk rk_fci r8)
  ((cI .i64 (cellsAt r8 0) 0).bind fun i9 =>
  cond (decide (i9 < 0))
  (some ([.one (Cell.int (-1))], []))
  ((callS run_fce [.one (c6), .one (Cell.int i9)] []).bind fun r10 =>
  cond (shapeOk rk_fce r10)
  ((cI .i64 (cellsAt r10 0) 0).bind fun i11 =>
  cond (decide (i11 < 0))
  (some ([.one (Cell.int (-1))], []))
  (some ([.one (Cell.int i11)], [])))
  none))
  none)
theorem fcb_code (k m : Nat) (s1 : ByteArray) (i2 : Int) (i3 : Int) (i4 : Int) (c5 : Cell) (c6 : Cell) (i7 : Int) : evC G_fcb fi_fcb (evF G_fcb (k + 1)) m fi_fcb.code none (retK G_fcb fi_fcb) (enter fi_fcb [.agg [Cell.str s1, Cell.int i2, Cell.int i3, Cell.int i4, c5, c6], .one (Cell.int i7)] []) = fcb (k + 1) m s1 i2 i3 i4 c5 c6 i7 := by
  kernel_rfl
theorem fcb_eq (k : Nat) (s1 : ByteArray) (i2 : Int) (i3 : Int) (i4 : Int) (c5 : Cell) (c6 : Cell) (i7 : Int) : evF G_fcb (k + 2) fid_fcb [.agg [Cell.str s1, Cell.int i2, Cell.int i3, Cell.int i4, c5, c6], .one (Cell.int i7)] [] = fcb (k + 1) (k + 1) s1 i2 i3 i4 c5 c6 i7 :=
  Eq.trans (by kernel_rfl) (fcb_code k (k + 1) s1 i2 i3 i4 c5 c6 i7)
theorem run_fcb_of {s1 : ByteArray} {i2 : Int} {i3 : Int} {i4 : Int} {c5 : Cell} {c6 : Cell} {i7 : Int} {r : Res} (k : Nat) (h : fcb (k + 1) (k + 1) s1 i2 i3 i4 c5 c6 i7 = some r) : run_fcb [.agg [Cell.str s1, Cell.int i2, Cell.int i3, Cell.int i4, c5, c6], .one (Cell.int i7)] [] = some r := lim_of ((fcb_eq k s1 i2 i3 i4 c5 c6 i7).trans h)
noncomputable def pl_fcc : List (Nat × Run) := [(fid_fcb, run_fcb)]
noncomputable def G_fcc : Ctx := ctx tyTab fiTab pl_fcc
noncomputable def run_fcc : Run := lim G_fcc fid_fcc
theorem ok_fcc : FnOk Tryz.prog OkT fid_fcc run_fcc := lim_ok (l := pl_fcc) Tryz_mix tyTab_ok fiTab_ok okT (.cons ok_fcb .nil) fid_fcc
noncomputable def fcc_l0 (k m : Nat) : Nat → Cell → Int → Int → Option Res
  | 0, _, _, _ => none
  | n + 1, c4, i5, i6 =>
    (lenC c4).bind fun n7 =>
    cond (decide (i6 < (n7 : Int)))
    ((idxA 6 (c4) i6).bind fun c8 =>
    (deref [] (c8)).bind fun p9 =>
    (cS p9.1 p9.2).bind fun s10 =>
    (cI .i64 p9.1 (p9.2 + 1)).bind fun i11 =>
    (cI .i64 p9.1 ((p9.2 + 1) + 1)).bind fun i12 =>
    (cI .i64 p9.1 (((p9.2 + 1) + 1) + 1)).bind fun i13 =>
    (cC p9.1 ((((p9.2 + 1) + 1) + 1) + 1)).bind fun c14 =>
    (cC p9.1 (((((p9.2 + 1) + 1) + 1) + 1) + 1)).bind fun c15 =>
    (callS run_fcb [.agg [Cell.str s10, Cell.int i11, Cell.int i12, Cell.int i13, c14, c15], .one (Cell.int i5)] []).bind fun r16 =>
    cond (shapeOk rk_fcb r16)
    ((cI .i64 (cellsAt r16 0) 0).bind fun i17 =>
    cond (decide (i17 < 0))
    (some ([.one (Cell.int (-1))], []))
    (fcc_l0 k m n (c4) i17 (IntKind.i64.wrap (i6 + 1))))
    none)
    (some ([.one (Cell.int i5)], []))
noncomputable def fcc (k m : Nat) (c1 : Cell) (i2 : Int) : Option Res :=
  (lenC c1).bind fun n3 =>
  cond (decide ((IntKind.i64.wrap (i2 - (n3 : Int))) < 0))
  (some ([.one (Cell.int (-1))], []))
  (fcc_l0 k m m (c1) (IntKind.i64.wrap (i2 - (n3 : Int))) 0)
noncomputable abbrev fcc_l0_B (k m : Nat) : (Ex → Fr → Option Res) → Fr → Option Res := evC G_fcc fi_fcc (evF G_fcc (k + 1)) m (sub [1, 1, 1, 0, 1, 2, 3] fi_fcc.code) none
noncomputable abbrev fcc_l0_K (k m : Nat) : Ex → Fr → Option Res := blockK 0 (seqK (evC G_fcc fi_fcc (evF G_fcc (k + 1)) m (sub [1, 1, 1, 1] fi_fcc.code) none) (retK G_fcc fi_fcc))
theorem fcc_l0_eq (k m : Nat) : ∀ (n : Nat) (c4 : Cell) (i5 : Int) (i6 : Int), loopK (some [0, 1, 5]) (fcc_l0_B k m) (fcc_l0_K k m) n ⟨fT 27 0 [(0, .av (.one (c4))), (1, .av (.one (Cell.int i5))), (5, .av (.one (Cell.int i6)))], fX 27 0 [], []⟩ = fcc_l0 (k + 1) m n c4 i5 i6 := by
  intro n
  induction n with
  | zero => intros; rfl
  | succ n ih =>
    intros
    simp only [fcc_l0, ← ih]
    kernel_rfl
theorem fcc_code (k m : Nat) (c1 : Cell) (i2 : Int) : evC G_fcc fi_fcc (evF G_fcc (k + 1)) m fi_fcc.code none (retK G_fcc fi_fcc) (enter fi_fcc [.one (c1), .one (Cell.int i2)] []) = fcc (k + 1) m c1 i2 := by
  simp only [fcc, ← fcc_l0_eq k m]
  kernel_rfl
theorem fcc_eq (k : Nat) (c1 : Cell) (i2 : Int) : evF G_fcc (k + 2) fid_fcc [.one (c1), .one (Cell.int i2)] [] = fcc (k + 1) (k + 1) c1 i2 :=
  Eq.trans (by kernel_rfl) (fcc_code k (k + 1) c1 i2)
theorem run_fcc_of {c1 : Cell} {i2 : Int} {r : Res} (k : Nat) (h : fcc (k + 1) (k + 1) c1 i2 = some r) : run_fcc [.one (c1), .one (Cell.int i2)] [] = some r := lim_of ((fcc_eq k c1 i2).trans h)
noncomputable def pl_fcf : List (Nat × Run) := [(fid_fci, run_fci)]
noncomputable def G_fcf : Ctx := ctx tyTab fiTab pl_fcf
noncomputable def run_fcf : Run := lim G_fcf fid_fcf
theorem ok_fcf : FnOk Tryz.prog OkT fid_fcf run_fcf := lim_ok (l := pl_fcf) Tryz_mix tyTab_ok fiTab_ok okT (.cons ok_fci .nil) fid_fcf
noncomputable def fcf (k m : Nat) (s1 : ByteArray) (i2 : Int) (i3 : Int) (i4 : Int) (c5 : Cell) (i6 : Int) : Option Res :=
  cond (decide ((IntKind.i64.wrap (i6 - (s1.size : Int))) < 0))
  (some ([.one (Cell.int (-1))], []))
  ((callS run_fci [.agg [Cell.int i2, Cell.int i3, Cell.int i4, c5], .one (Cell.int (IntKind.i64.wrap (i6 - (s1.size : Int))))] []).bind fun r7 =>
  cond (shapeOk rk_fci r7)
  ((cI .i64 (cellsAt r7 0) 0).bind fun i8 =>
  cond (decide (i8 < 0))
  (some ([.one (Cell.int (-1))], []))
  (some ([.one (Cell.int i8)], [])))
  none)
theorem fcf_code (k m : Nat) (s1 : ByteArray) (i2 : Int) (i3 : Int) (i4 : Int) (c5 : Cell) (i6 : Int) : evC G_fcf fi_fcf (evF G_fcf (k + 1)) m fi_fcf.code none (retK G_fcf fi_fcf) (enter fi_fcf [.agg [Cell.str s1, Cell.int i2, Cell.int i3, Cell.int i4, c5], .one (Cell.int i6)] []) = fcf (k + 1) m s1 i2 i3 i4 c5 i6 := by
  kernel_rfl
theorem fcf_eq (k : Nat) (s1 : ByteArray) (i2 : Int) (i3 : Int) (i4 : Int) (c5 : Cell) (i6 : Int) : evF G_fcf (k + 2) fid_fcf [.agg [Cell.str s1, Cell.int i2, Cell.int i3, Cell.int i4, c5], .one (Cell.int i6)] [] = fcf (k + 1) (k + 1) s1 i2 i3 i4 c5 i6 :=
  Eq.trans (by kernel_rfl) (fcf_code k (k + 1) s1 i2 i3 i4 c5 i6)
theorem run_fcf_of {s1 : ByteArray} {i2 : Int} {i3 : Int} {i4 : Int} {c5 : Cell} {i6 : Int} {r : Res} (k : Nat) (h : fcf (k + 1) (k + 1) s1 i2 i3 i4 c5 i6 = some r) : run_fcf [.agg [Cell.str s1, Cell.int i2, Cell.int i3, Cell.int i4, c5], .one (Cell.int i6)] [] = some r := lim_of ((fcf_eq k s1 i2 i3 i4 c5 i6).trans h)
noncomputable def pl_fcg : List (Nat × Run) := [(fid_fcf, run_fcf)]
noncomputable def G_fcg : Ctx := ctx tyTab fiTab pl_fcg
noncomputable def run_fcg : Run := lim G_fcg fid_fcg
theorem ok_fcg : FnOk Tryz.prog OkT fid_fcg run_fcg := lim_ok (l := pl_fcg) Tryz_mix tyTab_ok fiTab_ok okT (.cons ok_fcf .nil) fid_fcg
noncomputable def fcg_l0 (k m : Nat) : Nat → Cell → Int → Int → Option Res
  | 0, _, _, _ => none
  | n + 1, c4, i5, i6 =>
    (lenC c4).bind fun n7 =>
    cond (decide (i6 < (n7 : Int)))
    ((idxA 5 (c4) i6).bind fun c8 =>
    (deref [] (c8)).bind fun p9 =>
    (cS p9.1 p9.2).bind fun s10 =>
    (cI .i64 p9.1 (p9.2 + 1)).bind fun i11 =>
    (cI .i64 p9.1 ((p9.2 + 1) + 1)).bind fun i12 =>
    (cI .i64 p9.1 (((p9.2 + 1) + 1) + 1)).bind fun i13 =>
    (cC p9.1 ((((p9.2 + 1) + 1) + 1) + 1)).bind fun c14 =>
    (callS run_fcf [.agg [Cell.str s10, Cell.int i11, Cell.int i12, Cell.int i13, c14], .one (Cell.int i5)] []).bind fun r15 =>
    cond (shapeOk rk_fcf r15)
    ((cI .i64 (cellsAt r15 0) 0).bind fun i16 =>
    cond (decide (i16 < 0))
    (some ([.one (Cell.int (-1))], []))
    (fcg_l0 k m n (c4) i16 (IntKind.i64.wrap (i6 + 1))))
    none)
    (some ([.one (Cell.int i5)], []))
noncomputable def fcg (k m : Nat) (c1 : Cell) (i2 : Int) : Option Res :=
  (lenC c1).bind fun n3 =>
  cond (decide ((IntKind.i64.wrap (i2 - (n3 : Int))) < 0))
  (some ([.one (Cell.int (-1))], []))
  (fcg_l0 k m m (c1) (IntKind.i64.wrap (i2 - (n3 : Int))) 0)
noncomputable abbrev fcg_l0_B (k m : Nat) : (Ex → Fr → Option Res) → Fr → Option Res := evC G_fcg fi_fcg (evF G_fcg (k + 1)) m (sub [1, 1, 1, 0, 1, 2, 3] fi_fcg.code) none
noncomputable abbrev fcg_l0_K (k m : Nat) : Ex → Fr → Option Res := blockK 0 (seqK (evC G_fcg fi_fcg (evF G_fcg (k + 1)) m (sub [1, 1, 1, 1] fi_fcg.code) none) (retK G_fcg fi_fcg))
theorem fcg_l0_eq (k m : Nat) : ∀ (n : Nat) (c4 : Cell) (i5 : Int) (i6 : Int), loopK (some [0, 1, 5]) (fcg_l0_B k m) (fcg_l0_K k m) n ⟨fT 27 0 [(0, .av (.one (c4))), (1, .av (.one (Cell.int i5))), (5, .av (.one (Cell.int i6)))], fX 27 0 [], []⟩ = fcg_l0 (k + 1) m n c4 i5 i6 := by
  intro n
  induction n with
  | zero => intros; rfl
  | succ n ih =>
    intros
    simp only [fcg_l0, ← ih]
    kernel_rfl
theorem fcg_code (k m : Nat) (c1 : Cell) (i2 : Int) : evC G_fcg fi_fcg (evF G_fcg (k + 1)) m fi_fcg.code none (retK G_fcg fi_fcg) (enter fi_fcg [.one (c1), .one (Cell.int i2)] []) = fcg (k + 1) m c1 i2 := by
  simp only [fcg, ← fcg_l0_eq k m]
  kernel_rfl
theorem fcg_eq (k : Nat) (c1 : Cell) (i2 : Int) : evF G_fcg (k + 2) fid_fcg [.one (c1), .one (Cell.int i2)] [] = fcg (k + 1) (k + 1) c1 i2 :=
  Eq.trans (by kernel_rfl) (fcg_code k (k + 1) c1 i2)
theorem run_fcg_of {c1 : Cell} {i2 : Int} {r : Res} (k : Nat) (h : fcg (k + 1) (k + 1) c1 i2 = some r) : run_fcg [.one (c1), .one (Cell.int i2)] [] = some r := lim_of ((fcg_eq k c1 i2).trans h)
noncomputable def pl_fdm : List (Nat × Run) := []
noncomputable def G_fdm : Ctx := ctx tyTab fiTab pl_fdm
noncomputable def run_fdm : Run := lim G_fdm fid_fdm
theorem ok_fdm : FnOk Tryz.prog OkT fid_fdm run_fdm := lim_ok (l := pl_fdm) Tryz_mix tyTab_ok fiTab_ok okT .nil fid_fdm
noncomputable def fdm (k m : Nat) (i1 : Int) (i2 : Int) (i3 : Int) (c4 : Cell) : Option Res :=
  (srcRows [] 1 c4).bind fun r5 =>
  (app [] 1 16 (.lst true 1 []) r5).bind fun p6 =>
  some ([.agg [Cell.int i1, Cell.int i2, Cell.int i3, p6.1]], p6.2)
theorem fdm_code (k m : Nat) (i1 : Int) (i2 : Int) (i3 : Int) (c4 : Cell) : evC G_fdm fi_fdm (evF G_fdm (k + 1)) m fi_fdm.code none (retK G_fdm fi_fdm) (enter fi_fdm [.agg [Cell.int i1, Cell.int i2, Cell.int i3, c4]] []) = fdm (k + 1) m i1 i2 i3 c4 := by
  kernel_rfl
theorem fdm_eq (k : Nat) (i1 : Int) (i2 : Int) (i3 : Int) (c4 : Cell) : evF G_fdm (k + 2) fid_fdm [.agg [Cell.int i1, Cell.int i2, Cell.int i3, c4]] [] = fdm (k + 1) (k + 1) i1 i2 i3 c4 :=
  Eq.trans (by kernel_rfl) (fdm_code k (k + 1) i1 i2 i3 c4)
theorem run_fdm_of {i1 : Int} {i2 : Int} {i3 : Int} {c4 : Cell} {r : Res} (k : Nat) (h : fdm (k + 1) (k + 1) i1 i2 i3 c4 = some r) : run_fdm [.agg [Cell.int i1, Cell.int i2, Cell.int i3, c4]] [] = some r := lim_of ((fdm_eq k i1 i2 i3 c4).trans h)
noncomputable def pl_fdd : List (Nat × Run) := [(fid_fdm, run_fdm)]
noncomputable def G_fdd : Ctx := ctx tyTab fiTab pl_fdd
noncomputable def run_fdd : Run := lim G_fdd fid_fdd
theorem ok_fdd : FnOk Tryz.prog OkT fid_fdd run_fdd := lim_ok (l := pl_fdd) Tryz_mix tyTab_ok fiTab_ok okT (.cons ok_fdm .nil) fid_fdd
noncomputable def fdd_l0 (k m : Nat) : Nat → Cell → ByteArray → Int → Option Res
  | 0, _, _, _ => none
  | n + 1, c3, s4, i5 =>
    (lenC c3).bind fun n6 =>
    cond (decide (i5 < (n6 : Int)))
    ((idxA 5 (c3) i5).bind fun c7 =>
    (fldA c7 0).bind fun c8 =>
    (deref [] (c8)).bind fun p9 =>
    (cS p9.1 p9.2).bind fun s10 =>
    cond (s10.toList == s4.toList)
    ((idxA 5 (c3) i5).bind fun c11 =>
    (fldA c11 1).bind fun c12 =>
    (deref [] (c12)).bind fun p13 =>
    (cI .i64 p13.1 p13.2).bind fun i14 =>
    (cI .i64 p13.1 (p13.2 + 1)).bind fun i15 =>
    (cI .i64 p13.1 ((p13.2 + 1) + 1)).bind fun i16 =>
    (cC p13.1 (((p13.2 + 1) + 1) + 1)).bind fun c17 =>
    (callL run_fdm [.agg [Cell.int i14, Cell.int i15, Cell.int i16, c17]] []).bind fun r18 =>
    cond (shapeOk rk_fdm r18.1)
    ((cI .i64 (cellsAt r18.1 0) 0).bind fun i19 =>
    (cI .i64 (cellsAt r18.1 0) 1).bind fun i20 =>
    (cI .i64 (cellsAt r18.1 0) 2).bind fun i21 =>
    (cC (cellsAt r18.1 0) 3).bind fun c22 =>
    some ([.agg [Cell.int i19, Cell.int i20, Cell.int i21, c22], .one (Cell.bool true)], r18.2))
    none)
    (fdd_l0 k m n (c3) s4 (IntKind.i64.wrap (i5 + 1))))
    (some ([.agg [Cell.int 0, Cell.int 0, Cell.int 0, .lst true 1 []], .one (Cell.bool false)], []))
noncomputable def fdd (k m : Nat) (c1 : Cell) (s2 : ByteArray) : Option Res :=
  fdd_l0 k m m (c1) s2 0
noncomputable abbrev fdd_l0_B (k m : Nat) : (Ex → Fr → Option Res) → Fr → Option Res := evC G_fdd fi_fdd (evF G_fdd (k + 1)) m (sub [1, 0, 1, 2, 3] fi_fdd.code) none
noncomputable abbrev fdd_l0_K (k m : Nat) : Ex → Fr → Option Res := blockK 0 (seqK (evC G_fdd fi_fdd (evF G_fdd (k + 1)) m (sub [1, 1] fi_fdd.code) none) (retK G_fdd fi_fdd))
theorem fdd_l0_eq (k m : Nat) : ∀ (n : Nat) (c3 : Cell) (s4 : ByteArray) (i5 : Int), loopK (some [0, 1, 4, 6]) (fdd_l0_B k m) (fdd_l0_K k m) n ⟨fT 27 0 [(0, .av (.one (c3))), (1, .av (.one (Cell.str s4))), (4, .loc 4 0), (6, .av (.one (Cell.int i5)))], fX 27 0 [(4, [Cell.int 0, Cell.int 0, Cell.int 0, .lst true 1 []])], []⟩ = fdd_l0 (k + 1) m n c3 s4 i5 := by
  intro n
  induction n with
  | zero => intros; rfl
  | succ n ih =>
    intros
    simp only [fdd_l0, ← ih]
    kernel_rfl
theorem fdd_code (k m : Nat) (c1 : Cell) (s2 : ByteArray) : evC G_fdd fi_fdd (evF G_fdd (k + 1)) m fi_fdd.code none (retK G_fdd fi_fdd) (enter fi_fdd [.one (c1), .one (Cell.str s2)] []) = fdd (k + 1) m c1 s2 := by
  simp only [fdd, ← fdd_l0_eq k m]
  kernel_rfl
theorem fdd_eq (k : Nat) (c1 : Cell) (s2 : ByteArray) : evF G_fdd (k + 2) fid_fdd [.one (c1), .one (Cell.str s2)] [] = fdd (k + 1) (k + 1) c1 s2 :=
  Eq.trans (by kernel_rfl) (fdd_code k (k + 1) c1 s2)
theorem run_fdd_of {c1 : Cell} {s2 : ByteArray} {r : Res} (k : Nat) (h : fdd (k + 1) (k + 1) c1 s2 = some r) : run_fdd [.one (c1), .one (Cell.str s2)] [] = some r := lim_of ((fdd_eq k c1 s2).trans h)
noncomputable def pl_fdg : List (Nat × Run) := []
noncomputable def G_fdg : Ctx := ctx tyTab fiTab pl_fdg
noncomputable def run_fdg : Run := lim G_fdg fid_fdg
theorem ok_fdg : FnOk Tryz.prog OkT fid_fdg run_fdg := lim_ok (l := pl_fdg) Tryz_mix tyTab_ok fiTab_ok okT .nil fid_fdg
noncomputable def fdg_l0 (k m : Nat) : Nat → ByteArray → Int → Cell → Int → Int → List Entry → Option Res
  | 0, _, _, _, _, _, _ => none
  | n + 1, s3, i4, c5, i6, i7, H8 =>
    cond (decide (i7 ≤ (s3.size : Int)))
    (cond (i7 == (s3.size : Int))
    ((subS s3 i6 i7).bind fun s9 =>
    (app H8 1 16 (c5) [[Cell.str s9]]).bind fun p10 =>
    fdg_l0 k m n s3 i4 (p10.1) (IntKind.i64.wrap (i7 + 1)) (IntKind.i64.wrap (i7 + 1)) p10.2)
    ((bytS s3 i7).bind fun i11 =>
    cond (i11 == i4)
    ((subS s3 i6 i7).bind fun s12 =>
    (app H8 1 16 (c5) [[Cell.str s12]]).bind fun p13 =>
    fdg_l0 k m n s3 i4 (p13.1) (IntKind.i64.wrap (i7 + 1)) (IntKind.i64.wrap (i7 + 1)) p13.2)
    (fdg_l0 k m n s3 i4 (c5) i6 (IntKind.i64.wrap (i7 + 1)) H8)))
    (some ([.one (c5)], H8))
noncomputable def fdg (k m : Nat) (s1 : ByteArray) (i2 : Int) : Option Res :=
  fdg_l0 k m m s1 i2 (.lst true 1 []) 0 0 []
noncomputable abbrev fdg_l0_B (k m : Nat) : (Ex → Fr → Option Res) → Fr → Option Res := evC G_fdg fi_fdg (evF G_fdg (k + 1)) m (sub [1, 1, 1, 0, 1, 2, 3] fi_fdg.code) none
noncomputable abbrev fdg_l0_K (k m : Nat) : Ex → Fr → Option Res := blockK 0 (seqK (evC G_fdg fi_fdg (evF G_fdg (k + 1)) m (sub [1, 1, 1, 1] fi_fdg.code) none) (retK G_fdg fi_fdg))
theorem fdg_l0_eq (k m : Nat) : ∀ (n : Nat) (s3 : ByteArray) (i4 : Int) (c5 : Cell) (i6 : Int) (i7 : Int) (H8 : List Entry), loopK (some [0, 1, 5, 6, 7]) (fdg_l0_B k m) (fdg_l0_K k m) n ⟨fT 36 0 [(0, .av (.one (Cell.str s3))), (1, .av (.one (.sc (.int .u8 i4)))), (5, .av (.one (c5))), (6, .av (.one (Cell.int i6))), (7, .av (.one (Cell.int i7)))], fX 36 0 [], H8⟩ = fdg_l0 (k + 1) m n s3 i4 c5 i6 i7 H8 := by
  intro n
  induction n with
  | zero => intros; rfl
  | succ n ih =>
    intros
    simp only [fdg_l0, ← ih]
    kernel_rfl
theorem fdg_code (k m : Nat) (s1 : ByteArray) (i2 : Int) : evC G_fdg fi_fdg (evF G_fdg (k + 1)) m fi_fdg.code none (retK G_fdg fi_fdg) (enter fi_fdg [.one (Cell.str s1), .one (.sc (.int .u8 i2))] []) = fdg (k + 1) m s1 i2 := by
  simp only [fdg, ← fdg_l0_eq k m]
  kernel_rfl
theorem fdg_eq (k : Nat) (s1 : ByteArray) (i2 : Int) : evF G_fdg (k + 2) fid_fdg [.one (Cell.str s1), .one (.sc (.int .u8 i2))] [] = fdg (k + 1) (k + 1) s1 i2 :=
  Eq.trans (by kernel_rfl) (fdg_code k (k + 1) s1 i2)
theorem run_fdg_of {s1 : ByteArray} {i2 : Int} {r : Res} (k : Nat) (h : fdg (k + 1) (k + 1) s1 i2 = some r) : run_fdg [.one (Cell.str s1), .one (.sc (.int .u8 i2))] [] = some r := lim_of ((fdg_eq k s1 i2).trans h)
noncomputable def pl_fea : List (Nat × Run) := []
noncomputable def G_fea : Ctx := ctx tyTab fiTab pl_fea
noncomputable def run_fea : Run := lim G_fea fid_fea
theorem ok_fea : FnOk Tryz.prog OkT fid_fea run_fea := lim_ok (l := pl_fea) Tryz_mix tyTab_ok fiTab_ok okT .nil fid_fea
noncomputable def fea_l0 (k m : Nat) : Nat → ByteArray → Cell → Int → Int → List Entry → Option Res
  | 0, _, _, _, _, _ => none
  | n + 1, s2, c3, i4, i5, H6 =>
    cond (decide ((IntKind.i64.wrap (i5 + 1)) < (s2.size : Int)))
    ((bytS s2 i5).bind fun i7 =>
    cond (i7 == 124)
    ((bytS s2 (IntKind.i64.wrap (i5 + 1))).bind fun i8 =>
    cond (i8 == 124)
    ((subS s2 i4 i5).bind fun s9 =>
    (app H6 1 16 (c3) [[Cell.str s9]]).bind fun p10 =>
    fea_l0 k m n s2 (p10.1) (IntKind.i64.wrap (i5 + 2)) (IntKind.i64.wrap ((IntKind.i64.wrap (i5 + 1)) + 1)) p10.2)
    (fea_l0 k m n s2 (c3) i4 (IntKind.i64.wrap (i5 + 1)) H6))
    (fea_l0 k m n s2 (c3) i4 (IntKind.i64.wrap (i5 + 1)) H6))
    ((subS s2 i4 (s2.size : Int)).bind fun s11 =>
    (app H6 1 16 (c3) [[Cell.str s11]]).bind fun p12 =>
    some ([.one (p12.1)], p12.2))
noncomputable def fea (k m : Nat) (s1 : ByteArray) : Option Res :=
  fea_l0 k m m s1 (.lst true 1 []) 0 0 []
noncomputable abbrev fea_l0_B (k m : Nat) : (Ex → Fr → Option Res) → Fr → Option Res := evC G_fea fi_fea (evF G_fea (k + 1)) m (sub [1, 1, 1, 0, 1, 2, 3] fi_fea.code) none
noncomputable abbrev fea_l0_K (k m : Nat) : Ex → Fr → Option Res := blockK 0 (seqK (evC G_fea fi_fea (evF G_fea (k + 1)) m (sub [1, 1, 1, 1] fi_fea.code) none) (retK G_fea fi_fea))
theorem fea_l0_eq (k m : Nat) : ∀ (n : Nat) (s2 : ByteArray) (c3 : Cell) (i4 : Int) (i5 : Int) (H6 : List Entry), loopK (some [0, 3, 4, 5]) (fea_l0_B k m) (fea_l0_K k m) n ⟨fT 42 0 [(0, .av (.one (Cell.str s2))), (3, .av (.one (c3))), (4, .av (.one (Cell.int i4))), (5, .av (.one (Cell.int i5)))], fX 42 0 [], H6⟩ = fea_l0 (k + 1) m n s2 c3 i4 i5 H6 := by
  intro n
  induction n with
  | zero => intros; rfl
  | succ n ih =>
    intros
    simp only [fea_l0, ← ih]
    kernel_rfl
theorem fea_code (k m : Nat) (s1 : ByteArray) : evC G_fea fi_fea (evF G_fea (k + 1)) m fi_fea.code none (retK G_fea fi_fea) (enter fi_fea [.one (Cell.str s1)] []) = fea (k + 1) m s1 := by
  simp only [fea, ← fea_l0_eq k m]
  kernel_rfl
theorem fea_eq (k : Nat) (s1 : ByteArray) : evF G_fea (k + 2) fid_fea [.one (Cell.str s1)] [] = fea (k + 1) (k + 1) s1 :=
  Eq.trans (by kernel_rfl) (fea_code k (k + 1) s1)
theorem run_fea_of {s1 : ByteArray} {r : Res} (k : Nat) (h : fea (k + 1) (k + 1) s1 = some r) : run_fea [.one (Cell.str s1)] [] = some r := lim_of ((fea_eq k s1).trans h)
noncomputable def pl_fdj : List (Nat × Run) := []
noncomputable def G_fdj : Ctx := ctx tyTab fiTab pl_fdj
noncomputable def run_fdj : Run := lim G_fdj fid_fdj
theorem ok_fdj : FnOk Tryz.prog OkT fid_fdj run_fdj := lim_ok (l := pl_fdj) Tryz_mix tyTab_ok fiTab_ok okT .nil fid_fdj
noncomputable def fdj (k m : Nat) (i1 : Int) (i2 : Int) (i3 : Int) : Option Res :=
  cond (decide (i1 ≥ i2))
  (some ([.one (Cell.bool (decide (i1 ≤ i3)))], []))
  (some ([.one (Cell.bool false)], []))
theorem fdj_code (k m : Nat) (i1 : Int) (i2 : Int) (i3 : Int) : evC G_fdj fi_fdj (evF G_fdj (k + 1)) m fi_fdj.code none (retK G_fdj fi_fdj) (enter fi_fdj [.one (Cell.int i1), .one (Cell.int i2), .one (Cell.int i3)] []) = fdj (k + 1) m i1 i2 i3 := by
  kernel_rfl
theorem fdj_eq (k : Nat) (i1 : Int) (i2 : Int) (i3 : Int) : evF G_fdj (k + 2) fid_fdj [.one (Cell.int i1), .one (Cell.int i2), .one (Cell.int i3)] [] = fdj (k + 1) (k + 1) i1 i2 i3 :=
  Eq.trans (by kernel_rfl) (fdj_code k (k + 1) i1 i2 i3)
theorem run_fdj_of {i1 : Int} {i2 : Int} {i3 : Int} {r : Res} (k : Nat) (h : fdj (k + 1) (k + 1) i1 i2 i3 = some r) : run_fdj [.one (Cell.int i1), .one (Cell.int i2), .one (Cell.int i3)] [] = some r := lim_of ((fdj_eq k i1 i2 i3).trans h)
noncomputable def pl_fdi : List (Nat × Run) := [(fid_fdj, run_fdj)]
noncomputable def G_fdi : Ctx := ctx tyTab fiTab pl_fdi
noncomputable def run_fdi : Run := lim G_fdi fid_fdi
theorem ok_fdi : FnOk Tryz.prog OkT fid_fdi run_fdi := lim_ok (l := pl_fdi) Tryz_mix tyTab_ok fiTab_ok okT (.cons ok_fdj .nil) fid_fdi
noncomputable def fdi (k m : Nat) (i1 : Int) : Option Res :=
  (callS run_fdj [.one (Cell.int (IntKind.i64.wrap i1)), .one (Cell.int 48), .one (Cell.int 57)] []).bind fun r2 =>
  cond (shapeOk rk_fdj r2)
  ((cB (cellsAt r2 0) 0).bind fun b3 =>
  some ([.one (Cell.bool b3)], []))
  none
theorem fdi_code (k m : Nat) (i1 : Int) : evC G_fdi fi_fdi (evF G_fdi (k + 1)) m fi_fdi.code none (retK G_fdi fi_fdi) (enter fi_fdi [.one (.sc (.int .u8 i1))] []) = fdi (k + 1) m i1 := by
  kernel_rfl
theorem fdi_eq (k : Nat) (i1 : Int) : evF G_fdi (k + 2) fid_fdi [.one (.sc (.int .u8 i1))] [] = fdi (k + 1) (k + 1) i1 :=
  Eq.trans (by kernel_rfl) (fdi_code k (k + 1) i1)
theorem run_fdi_of {i1 : Int} {r : Res} (k : Nat) (h : fdi (k + 1) (k + 1) i1 = some r) : run_fdi [.one (.sc (.int .u8 i1))] [] = some r := lim_of ((fdi_eq k i1).trans h)
noncomputable def pl_fda : List (Nat × Run) := [(fid_fdi, run_fdi), (fid_fdj, run_fdj)]
noncomputable def G_fda : Ctx := ctx tyTab fiTab pl_fda
noncomputable def run_fda : Run := lim G_fda fid_fda
theorem ok_fda : FnOk Tryz.prog OkT fid_fda run_fda := lim_ok (l := pl_fda) Tryz_mix tyTab_ok fiTab_ok okT (.cons ok_fdi (.cons ok_fdj .nil)) fid_fda
noncomputable def fda_l0 (k m : Nat) : Nat → ByteArray → Int → Int → Int → Option Res
  | 0, _, _, _, _ => none
  | n + 1, s3, i4, i5, i6 =>
    cond (decide (i6 < (s3.size : Int)))
    (cond (decide (i6 < 8))
    ((bytS s3 i6).bind fun i7 =>
    (callS run_fdi [.one (.sc (.int .u8 i7))] []).bind fun r8 =>
    cond (shapeOk rk_fdi r8)
    ((cB (cellsAt r8 0) 0).bind fun b9 =>
    cond (!b9)
    (some ([.one (Cell.int 0), .one (Cell.bool false)], []))
    ((bytS s3 i6).bind fun i10 =>
    fda_l0 k m n s3 i4 (IntKind.i64.wrap ((IntKind.i64.wrap (i5 * 10)) + (IntKind.i64.wrap (IntKind.u8.wrap (i10 - 48))))) (IntKind.i64.wrap (i6 + 1))))
    none)
    ((callS run_fdj [.one (Cell.int (s3.size : Int)), .one (Cell.int 1), .one (Cell.int 7)] []).bind fun r11 =>
    cond (shapeOk rk_fdj r11)
    ((cB (cellsAt r11 0) 0).bind fun b12 =>
    cond (!b12)
    (some ([.one (Cell.int 0), .one (Cell.bool false)], []))
    (cond (decide ((s3.size : Int) > 1))
    ((bytS s3 0).bind fun i13 =>
    cond (i13 == 48)
    (some ([.one (Cell.int 0), .one (Cell.bool false)], []))
    (cond (decide (i5 > i4))
    (some ([.one (Cell.int 0), .one (Cell.bool false)], []))
    (some ([.one (Cell.int i5), .one (Cell.bool true)], []))))
    (cond (decide (i5 > i4))
    (some ([.one (Cell.int 0), .one (Cell.bool false)], []))
    (some ([.one (Cell.int i5), .one (Cell.bool true)], [])))))
    none))
    ((callS run_fdj [.one (Cell.int (s3.size : Int)), .one (Cell.int 1), .one (Cell.int 7)] []).bind fun r14 =>
    cond (shapeOk rk_fdj r14)
    ((cB (cellsAt r14 0) 0).bind fun b15 =>
    cond (!b15)
    (some ([.one (Cell.int 0), .one (Cell.bool false)], []))
    (cond (decide ((s3.size : Int) > 1))
    ((bytS s3 0).bind fun i16 =>
    cond (i16 == 48)
    (some ([.one (Cell.int 0), .one (Cell.bool false)], []))
    (cond (decide (i5 > i4))
    (some ([.one (Cell.int 0), .one (Cell.bool false)], []))
    (some ([.one (Cell.int i5), .one (Cell.bool true)], []))))
    (cond (decide (i5 > i4))
    (some ([.one (Cell.int 0), .one (Cell.bool false)], []))
    (some ([.one (Cell.int i5), .one (Cell.bool true)], [])))))
    none)
noncomputable def fda (k m : Nat) (s1 : ByteArray) (i2 : Int) : Option Res :=
  fda_l0 k m m s1 i2 0 0
noncomputable abbrev fda_l0_B (k m : Nat) : (Ex → Fr → Option Res) → Fr → Option Res := evC G_fda fi_fda (evF G_fda (k + 1)) m (sub [1, 1, 0, 1, 2, 3] fi_fda.code) none
noncomputable abbrev fda_l0_K (k m : Nat) : Ex → Fr → Option Res := blockK 0 (seqK (evC G_fda fi_fda (evF G_fda (k + 1)) m (sub [1, 1, 1] fi_fda.code) none) (retK G_fda fi_fda))
theorem fda_l0_eq (k m : Nat) : ∀ (n : Nat) (s3 : ByteArray) (i4 : Int) (i5 : Int) (i6 : Int), loopK (some [0, 1, 6, 7]) (fda_l0_B k m) (fda_l0_K k m) n ⟨fT 51 0 [(0, .av (.one (Cell.str s3))), (1, .av (.one (Cell.int i4))), (6, .av (.one (Cell.int i5))), (7, .av (.one (Cell.int i6)))], fX 51 0 [], []⟩ = fda_l0 (k + 1) m n s3 i4 i5 i6 := by
  intro n
  induction n with
  | zero => intros; rfl
  | succ n ih =>
    intros
    simp only [fda_l0, ← ih]
    kernel_rfl
theorem fda_code (k m : Nat) (s1 : ByteArray) (i2 : Int) : evC G_fda fi_fda (evF G_fda (k + 1)) m fi_fda.code none (retK G_fda fi_fda) (enter fi_fda [.one (Cell.str s1), .one (Cell.int i2)] []) = fda (k + 1) m s1 i2 := by
  simp only [fda, ← fda_l0_eq k m]
  kernel_rfl
theorem fda_eq (k : Nat) (s1 : ByteArray) (i2 : Int) : evF G_fda (k + 2) fid_fda [.one (Cell.str s1), .one (Cell.int i2)] [] = fda (k + 1) (k + 1) s1 i2 :=
  Eq.trans (by kernel_rfl) (fda_code k (k + 1) s1 i2)
theorem run_fda_of {s1 : ByteArray} {i2 : Int} {r : Res} (k : Nat) (h : fda (k + 1) (k + 1) s1 i2 = some r) : run_fda [.one (Cell.str s1), .one (Cell.int i2)] [] = some r := lim_of ((fda_eq k s1 i2).trans h)
noncomputable def pl_fdk : List (Nat × Run) := [(fid_fdj, run_fdj)]
noncomputable def G_fdk : Ctx := ctx tyTab fiTab pl_fdk
noncomputable def run_fdk : Run := lim G_fdk fid_fdk
theorem ok_fdk : FnOk Tryz.prog OkT fid_fdk run_fdk := lim_ok (l := pl_fdk) Tryz_mix tyTab_ok fiTab_ok okT (.cons ok_fdj .nil) fid_fdk
noncomputable def fdk (k m : Nat) (i1 : Int) : Option Res :=
  (callS run_fdj [.one (Cell.int (IntKind.i64.wrap i1)), .one (Cell.int 97), .one (Cell.int 122)] []).bind fun r2 =>
  cond (shapeOk rk_fdj r2)
  ((cB (cellsAt r2 0) 0).bind fun b3 =>
  some ([.one (Cell.bool b3)], []))
  none
theorem fdk_code (k m : Nat) (i1 : Int) : evC G_fdk fi_fdk (evF G_fdk (k + 1)) m fi_fdk.code none (retK G_fdk fi_fdk) (enter fi_fdk [.one (.sc (.int .u8 i1))] []) = fdk (k + 1) m i1 := by
  kernel_rfl
theorem fdk_eq (k : Nat) (i1 : Int) : evF G_fdk (k + 2) fid_fdk [.one (.sc (.int .u8 i1))] [] = fdk (k + 1) (k + 1) i1 :=
  Eq.trans (by kernel_rfl) (fdk_code k (k + 1) i1)
theorem run_fdk_of {i1 : Int} {r : Res} (k : Nat) (h : fdk (k + 1) (k + 1) i1 = some r) : run_fdk [.one (.sc (.int .u8 i1))] [] = some r := lim_of ((fdk_eq k i1).trans h)
noncomputable def pl_fdn : List (Nat × Run) := [(fid_fdi, run_fdi)]
noncomputable def G_fdn : Ctx := ctx tyTab fiTab pl_fdn
noncomputable def run_fdn : Run := lim G_fdn fid_fdn
theorem ok_fdn : FnOk Tryz.prog OkT fid_fdn run_fdn := lim_ok (l := pl_fdn) Tryz_mix tyTab_ok fiTab_ok okT (.cons ok_fdi .nil) fid_fdn
noncomputable def fdn_l0 (k m : Nat) : Nat → ByteArray → Int → Option Res
  | 0, _, _ => none
  | n + 1, s2, i3 =>
    cond (decide (i3 < (s2.size : Int)))
    ((bytS s2 i3).bind fun i4 =>
    (callS run_fdi [.one (.sc (.int .u8 i4))] []).bind fun r5 =>
    cond (shapeOk rk_fdi r5)
    ((cB (cellsAt r5 0) 0).bind fun b6 =>
    cond (!b6)
    (some ([.one (Cell.bool false)], []))
    (fdn_l0 k m n s2 (IntKind.i64.wrap (i3 + 1))))
    none)
    (some ([.one (Cell.bool true)], []))
noncomputable def fdn (k m : Nat) (s1 : ByteArray) : Option Res :=
  fdn_l0 k m m s1 0
noncomputable abbrev fdn_l0_B (k m : Nat) : (Ex → Fr → Option Res) → Fr → Option Res := evC G_fdn fi_fdn (evF G_fdn (k + 1)) m (sub [1, 0, 1, 2, 3] fi_fdn.code) none
noncomputable abbrev fdn_l0_K (k m : Nat) : Ex → Fr → Option Res := blockK 0 (seqK (evC G_fdn fi_fdn (evF G_fdn (k + 1)) m (sub [1, 1] fi_fdn.code) none) (retK G_fdn fi_fdn))
theorem fdn_l0_eq (k m : Nat) : ∀ (n : Nat) (s2 : ByteArray) (i3 : Int), loopK (some [0, 3]) (fdn_l0_B k m) (fdn_l0_K k m) n ⟨fT 15 0 [(0, .av (.one (Cell.str s2))), (3, .av (.one (Cell.int i3)))], fX 15 0 [], []⟩ = fdn_l0 (k + 1) m n s2 i3 := by
  intro n
  induction n with
  | zero => intros; rfl
  | succ n ih =>
    intros
    simp only [fdn_l0, ← ih]
    kernel_rfl
theorem fdn_code (k m : Nat) (s1 : ByteArray) : evC G_fdn fi_fdn (evF G_fdn (k + 1)) m fi_fdn.code none (retK G_fdn fi_fdn) (enter fi_fdn [.one (Cell.str s1)] []) = fdn (k + 1) m s1 := by
  simp only [fdn, ← fdn_l0_eq k m]
  kernel_rfl
theorem fdn_eq (k : Nat) (s1 : ByteArray) : evF G_fdn (k + 2) fid_fdn [.one (Cell.str s1)] [] = fdn (k + 1) (k + 1) s1 :=
  Eq.trans (by kernel_rfl) (fdn_code k (k + 1) s1)
theorem run_fdn_of {s1 : ByteArray} {r : Res} (k : Nat) (h : fdn (k + 1) (k + 1) s1 = some r) : run_fdn [.one (Cell.str s1)] [] = some r := lim_of ((fdn_eq k s1).trans h)
noncomputable def pl_fdq : List (Nat × Run) := [(fid_fdk, run_fdk), (fid_fdi, run_fdi), (fid_fdj, run_fdj), (fid_fdn, run_fdn)]
noncomputable def G_fdq : Ctx := ctx tyTab fiTab pl_fdq
noncomputable def run_fdq : Run := lim G_fdq fid_fdq
theorem ok_fdq : FnOk Tryz.prog OkT fid_fdq run_fdq := lim_ok (l := pl_fdq) Tryz_mix tyTab_ok fiTab_ok okT (.cons ok_fdk (.cons ok_fdi (.cons ok_fdj (.cons ok_fdn .nil)))) fid_fdq
noncomputable def fdq_l0 (k m : Nat) : Nat → ByteArray → Int → Option Res
  | 0, _, _ => none
  | n + 1, s2, i3 =>
    cond (decide (i3 < (s2.size : Int)))
    ((bytS s2 i3).bind fun i4 =>
    (callS run_fdi [.one (.sc (.int .u8 i4))] []).bind fun r5 =>
    cond (shapeOk rk_fdi r5)
    ((cB (cellsAt r5 0) 0).bind fun b6 =>
    cond (!b6)
    ((bytS s2 i3).bind fun i7 =>
    (callS run_fdk [.one (.sc (.int .u8 i7))] []).bind fun r8 =>
    cond (shapeOk rk_fdk r8)
    ((cB (cellsAt r8 0) 0).bind fun b9 =>
    cond (!b9)
    ((bytS s2 i3).bind fun i10 =>
    (callS run_fdj [.one (Cell.int (IntKind.i64.wrap i10)), .one (Cell.int 65), .one (Cell.int 90)] []).bind fun r11 =>
    cond (shapeOk rk_fdj r11)
    ((cB (cellsAt r11 0) 0).bind fun b12 =>
    cond (!b12)
    ((bytS s2 i3).bind fun i13 =>
    cond (i13 != 45)
    (some ([.one (Cell.bool false)], []))
    (fdq_l0 k m n s2 (IntKind.i64.wrap (i3 + 1))))
    (fdq_l0 k m n s2 (IntKind.i64.wrap (i3 + 1))))
    none)
    (fdq_l0 k m n s2 (IntKind.i64.wrap (i3 + 1))))
    none)
    (fdq_l0 k m n s2 (IntKind.i64.wrap (i3 + 1))))
    none)
    ((callS run_fdj [.one (Cell.int (s2.size : Int)), .one (Cell.int 1), .one (Cell.int 8)] []).bind fun r14 =>
    cond (shapeOk rk_fdj r14)
    ((cB (cellsAt r14 0) 0).bind fun b15 =>
    cond b15
    ((callS run_fdn [.one (Cell.str s2)] []).bind fun r16 =>
    cond (shapeOk rk_fdn r16)
    ((cB (cellsAt r16 0) 0).bind fun b17 =>
    cond (!b17)
    (some ([.one (Cell.bool true)], []))
    (cond ((s2.size : Int) == 1)
    (some ([.one (Cell.bool true)], []))
    ((bytS s2 0).bind fun i18 =>
    some ([.one (Cell.bool (i18 != 48))], []))))
    none)
    (some ([.one (Cell.bool false)], [])))
    none)
noncomputable def fdq (k m : Nat) (s1 : ByteArray) : Option Res :=
  fdq_l0 k m m s1 0
noncomputable abbrev fdq_l0_B (k m : Nat) : (Ex → Fr → Option Res) → Fr → Option Res := evC G_fdq fi_fdq (evF G_fdq (k + 1)) m (sub [1, 0, 1, 2, 3] fi_fdq.code) none
noncomputable abbrev fdq_l0_K (k m : Nat) : Ex → Fr → Option Res := blockK 0 (seqK (evC G_fdq fi_fdq (evF G_fdq (k + 1)) m (sub [1, 1] fi_fdq.code) none) (retK G_fdq fi_fdq))
theorem fdq_l0_eq (k m : Nat) : ∀ (n : Nat) (s2 : ByteArray) (i3 : Int), loopK (some [0, 3]) (fdq_l0_B k m) (fdq_l0_K k m) n ⟨fT 54 0 [(0, .av (.one (Cell.str s2))), (3, .av (.one (Cell.int i3)))], fX 54 0 [], []⟩ = fdq_l0 (k + 1) m n s2 i3 := by
  intro n
  induction n with
  | zero => intros; rfl
  | succ n ih =>
    intros
    simp only [fdq_l0, ← ih]
    kernel_rfl
theorem fdq_code (k m : Nat) (s1 : ByteArray) : evC G_fdq fi_fdq (evF G_fdq (k + 1)) m fi_fdq.code none (retK G_fdq fi_fdq) (enter fi_fdq [.one (Cell.str s1)] []) = fdq (k + 1) m s1 := by
  simp only [fdq, ← fdq_l0_eq k m]
  kernel_rfl
theorem fdq_eq (k : Nat) (s1 : ByteArray) : evF G_fdq (k + 2) fid_fdq [.one (Cell.str s1)] [] = fdq (k + 1) (k + 1) s1 :=
  Eq.trans (by kernel_rfl) (fdq_code k (k + 1) s1)
theorem run_fdq_of {s1 : ByteArray} {r : Res} (k : Nat) (h : fdq (k + 1) (k + 1) s1 = some r) : run_fdq [.one (Cell.str s1)] [] = some r := lim_of ((fdq_eq k s1).trans h)
noncomputable def pl_fdh : List (Nat × Run) := [(fid_fdj, run_fdj), (fid_fdq, run_fdq)]
noncomputable def G_fdh : Ctx := ctx tyTab fiTab pl_fdh
noncomputable def run_fdh : Run := lim G_fdh fid_fdh
theorem ok_fdh : FnOk Tryz.prog OkT fid_fdh run_fdh := lim_ok (l := pl_fdh) Tryz_mix tyTab_ok fiTab_ok okT (.cons ok_fdj (.cons ok_fdq .nil)) fid_fdh
noncomputable def fdh_l0 (k m : Nat) : Nat → Int → Int → Int → Int → Cell → Option Res
  | 0, _, _, _, _, _ => none
  | n + 1, i5, i6, i7, i8, c9 =>
    (lenC c9).bind fun n10 =>
    cond (decide (i5 < (n10 : Int)))
    ((idxA 1 (c9) i5).bind fun c11 =>
    (deref [] (c11)).bind fun p12 =>
    (cS p12.1 p12.2).bind fun s13 =>
    (callS run_fdq [.one (Cell.str s13)] []).bind fun r14 =>
    cond (shapeOk rk_fdq r14)
    ((cB (cellsAt r14 0) 0).bind fun b15 =>
    cond (!b15)
    (some ([.one (Cell.bool false)], []))
    (fdh_l0 k m n (IntKind.i64.wrap (i5 + 1)) i6 i7 i8 (c9)))
    none)
    ((callS run_fdj [.one (Cell.int i6), .one (Cell.int 0), .one (Cell.int 9999)] []).bind fun r16 =>
    cond (shapeOk rk_fdj r16)
    ((cB (cellsAt r16 0) 0).bind fun b17 =>
    cond b17
    ((callS run_fdj [.one (Cell.int i7), .one (Cell.int 0), .one (Cell.int 9999)] []).bind fun r18 =>
    cond (shapeOk rk_fdj r18)
    ((cB (cellsAt r18 0) 0).bind fun b19 =>
    cond b19
    ((callS run_fdj [.one (Cell.int i8), .one (Cell.int 0), .one (Cell.int 9999)] []).bind fun r20 =>
    cond (shapeOk rk_fdj r20)
    ((cB (cellsAt r20 0) 0).bind fun b21 =>
    cond b21
    ((lenC c9).bind fun n22 =>
    some ([.one (Cell.bool (decide ((n22 : Int) ≤ 3)))], []))
    (some ([.one (Cell.bool false)], [])))
    none)
    (some ([.one (Cell.bool false)], [])))
    none)
    (some ([.one (Cell.bool false)], [])))
    none)
noncomputable def fdh (k m : Nat) (i1 : Int) (i2 : Int) (i3 : Int) (c4 : Cell) : Option Res :=
  fdh_l0 k m m 0 i1 i2 i3 (c4)
noncomputable abbrev fdh_l0_B (k m : Nat) : (Ex → Fr → Option Res) → Fr → Option Res := evC G_fdh fi_fdh (evF G_fdh (k + 1)) m (sub [1, 0, 1, 2, 3] fi_fdh.code) none
noncomputable abbrev fdh_l0_K (k m : Nat) : Ex → Fr → Option Res := blockK 0 (seqK (evC G_fdh fi_fdh (evF G_fdh (k + 1)) m (sub [1, 1] fi_fdh.code) none) (retK G_fdh fi_fdh))
theorem fdh_l0_eq (k m : Nat) : ∀ (n : Nat) (i5 : Int) (i6 : Int) (i7 : Int) (i8 : Int) (c9 : Cell), loopK (some [1, 3]) (fdh_l0_B k m) (fdh_l0_K k m) n ⟨fT 37 0 [(1, .loc 1 0), (3, .av (.one (Cell.int i5)))], fX 37 0 [(1, [Cell.int i6, Cell.int i7, Cell.int i8, c9])], []⟩ = fdh_l0 (k + 1) m n i5 i6 i7 i8 c9 := by
  intro n
  induction n with
  | zero => intros; rfl
  | succ n ih =>
    intros
    simp only [fdh_l0, ← ih]
    kernel_rfl
theorem fdh_code (k m : Nat) (i1 : Int) (i2 : Int) (i3 : Int) (c4 : Cell) : evC G_fdh fi_fdh (evF G_fdh (k + 1)) m fi_fdh.code none (retK G_fdh fi_fdh) (enter fi_fdh [.agg [Cell.int i1, Cell.int i2, Cell.int i3, c4]] []) = fdh (k + 1) m i1 i2 i3 c4 := by
  simp only [fdh, ← fdh_l0_eq k m]
  kernel_rfl
theorem fdh_eq (k : Nat) (i1 : Int) (i2 : Int) (i3 : Int) (c4 : Cell) : evF G_fdh (k + 2) fid_fdh [.agg [Cell.int i1, Cell.int i2, Cell.int i3, c4]] [] = fdh (k + 1) (k + 1) i1 i2 i3 c4 :=
  Eq.trans (by kernel_rfl) (fdh_code k (k + 1) i1 i2 i3 c4)
theorem run_fdh_of {i1 : Int} {i2 : Int} {i3 : Int} {c4 : Cell} {r : Res} (k : Nat) (h : fdh (k + 1) (k + 1) i1 i2 i3 c4 = some r) : run_fdh [.agg [Cell.int i1, Cell.int i2, Cell.int i3, c4]] [] = some r := lim_of ((fdh_eq k i1 i2 i3 c4).trans h)
end Go.Ev
