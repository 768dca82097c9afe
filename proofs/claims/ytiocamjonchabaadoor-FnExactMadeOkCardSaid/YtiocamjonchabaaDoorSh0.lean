/- What the evaluator says of the functions, each as a Lean function over cells. Printed by a program of this claim. Conditions: none. -/
import Derived.Test.YtiocamjonchabaaDoorEvPr
import Derived.KernelRfl
namespace Go.Ev
open Go Go.Proofs
set_option maxRecDepth 100000
set_option linter.unusedVariables false
set_option linter.unusedSimpArgs false
noncomputable def pl_laws_szFile : List (Nat × Run) := []
noncomputable def G_laws_szFile : Ctx := ctx tyTab fiTab pl_laws_szFile
noncomputable def run_laws_szFile : Run := lim G_laws_szFile fid_laws_szFile
theorem ok_laws_szFile : FnOk Tryd.prog OkT fid_laws_szFile run_laws_szFile := lim_ok (l := pl_laws_szFile) Tryd_mix tyTab_ok fiTab_ok okT .nil fid_laws_szFile
noncomputable def laws_szFile (k m : Nat) (s1 : ByteArray) (s2 : ByteArray) (i3 : Int) : Option Res :=
  cond (decide ((IntKind.i64.wrap (i3 - (s1.size : Int))) < 0))
  (some ([.one (Cell.int (-1))], []))
  (cond (decide ((IntKind.i64.wrap ((IntKind.i64.wrap (i3 - (s1.size : Int))) - (s2.size : Int))) < 0))
  (some ([.one (Cell.int (-1))], []))
  (some ([.one (Cell.int (IntKind.i64.wrap ((IntKind.i64.wrap (i3 - (s1.size : Int))) - (s2.size : Int))))], [])))
theorem laws_szFile_code (k m : Nat) (s1 : ByteArray) (s2 : ByteArray) (i3 : Int) : evC G_laws_szFile fi_laws_szFile (evF G_laws_szFile (k + 1)) m fi_laws_szFile.code none (retK G_laws_szFile fi_laws_szFile) (enter fi_laws_szFile [.agg [Cell.str s1, Cell.str s2], .one (Cell.int i3)] []) = laws_szFile (k + 1) m s1 s2 i3 := by
  kernel_rfl
theorem laws_szFile_eq (k : Nat) (s1 : ByteArray) (s2 : ByteArray) (i3 : Int) : evF G_laws_szFile (k + 2) fid_laws_szFile [.agg [Cell.str s1, Cell.str s2], .one (Cell.int i3)] [] = laws_szFile (k + 1) (k + 1) s1 s2 i3 :=
  Eq.trans (by kernel_rfl) (laws_szFile_code k (k + 1) s1 s2 i3)
theorem run_laws_szFile_of {s1 : ByteArray} {s2 : ByteArray} {i3 : Int} {r : Res} (k : Nat) (h : laws_szFile (k + 1) (k + 1) s1 s2 i3 = some r) : run_laws_szFile [.agg [Cell.str s1, Cell.str s2], .one (Cell.int i3)] [] = some r := lim_of ((laws_szFile_eq k s1 s2 i3).trans h)
noncomputable def pl_laws_szFileS : List (Nat × Run) := [(fid_laws_szFile, run_laws_szFile)]
noncomputable def G_laws_szFileS : Ctx := ctx tyTab fiTab pl_laws_szFileS
noncomputable def run_laws_szFileS : Run := lim G_laws_szFileS fid_laws_szFileS
theorem ok_laws_szFileS : FnOk Tryd.prog OkT fid_laws_szFileS run_laws_szFileS := lim_ok (l := pl_laws_szFileS) Tryd_mix tyTab_ok fiTab_ok okT (.cons ok_laws_szFile .nil) fid_laws_szFileS
noncomputable def laws_szFileS_l0 (k m : Nat) : Nat → Cell → Int → Int → Option Res
  | 0, _, _, _ => none
  | n + 1, c4, i5, i6 =>
    (lenC c4).bind fun n7 =>
    cond (decide (i6 < (n7 : Int)))
    ((idxA 2 (c4) i6).bind fun c8 =>
    (deref [] (c8)).bind fun p9 =>
    (cS p9.1 p9.2).bind fun s10 =>
    (cS p9.1 (p9.2 + 1)).bind fun s11 =>
    (callS run_laws_szFile [.agg [Cell.str s10, Cell.str s11], .one (Cell.int i5)] []).bind fun r12 =>
    cond (shapeOk rk_laws_szFile r12)
    ((cI .i64 (cellsAt r12 0) 0).bind fun i13 =>
    cond (decide (i13 < 0))
    (some ([.one (Cell.int (-1))], []))
    (laws_szFileS_l0 k m n (c4) i13 (IntKind.i64.wrap (i6 + 1))))
    none)
    (some ([.one (Cell.int i5)], []))
noncomputable def laws_szFileS (k m : Nat) (c1 : Cell) (i2 : Int) : Option Res :=
  (lenC c1).bind fun n3 =>
  cond (decide ((IntKind.i64.wrap (i2 - (n3 : Int))) < 0))
  (some ([.one (Cell.int (-1))], []))
  (laws_szFileS_l0 k m m (c1) (IntKind.i64.wrap (i2 - (n3 : Int))) 0)
noncomputable abbrev laws_szFileS_l0_B (k m : Nat) : (Ex → Fr → Option Res) → Fr → Option Res := evC G_laws_szFileS fi_laws_szFileS (evF G_laws_szFileS (k + 1)) m (sub [1, 1, 1, 0, 1, 2, 3] fi_laws_szFileS.code) none
noncomputable abbrev laws_szFileS_l0_K (k m : Nat) : Ex → Fr → Option Res := blockK 0 (seqK (evC G_laws_szFileS fi_laws_szFileS (evF G_laws_szFileS (k + 1)) m (sub [1, 1, 1, 1] fi_laws_szFileS.code) none) (retK G_laws_szFileS fi_laws_szFileS))
theorem laws_szFileS_l0_eq (k m : Nat) : ∀ (n : Nat) (c4 : Cell) (i5 : Int) (i6 : Int), loopK (some [0, 1, 5]) (laws_szFileS_l0_B k m) (laws_szFileS_l0_K k m) n ⟨fT 27 0 [(0, .av (.one (c4))), (1, .av (.one (Cell.int i5))), (5, .av (.one (Cell.int i6)))], fX 27 0 [], []⟩ = laws_szFileS_l0 (k + 1) m n c4 i5 i6 := by
  intro n
  induction n with
  | zero => intros; rfl
  | succ n ih =>
    intros
    simp only [laws_szFileS_l0, ← ih]
    kernel_rfl
theorem laws_szFileS_code (k m : Nat) (c1 : Cell) (i2 : Int) : evC G_laws_szFileS fi_laws_szFileS (evF G_laws_szFileS (k + 1)) m fi_laws_szFileS.code none (retK G_laws_szFileS fi_laws_szFileS) (enter fi_laws_szFileS [.one (c1), .one (Cell.int i2)] []) = laws_szFileS (k + 1) m c1 i2 := by
  simp only [laws_szFileS, ← laws_szFileS_l0_eq k m]
  kernel_rfl
theorem laws_szFileS_eq (k : Nat) (c1 : Cell) (i2 : Int) : evF G_laws_szFileS (k + 2) fid_laws_szFileS [.one (c1), .one (Cell.int i2)] [] = laws_szFileS (k + 1) (k + 1) c1 i2 :=
  Eq.trans (by kernel_rfl) (laws_szFileS_code k (k + 1) c1 i2)
theorem run_laws_szFileS_of {c1 : Cell} {i2 : Int} {r : Res} (k : Nat) (h : laws_szFileS (k + 1) (k + 1) c1 i2 = some r) : run_laws_szFileS [.one (c1), .one (Cell.int i2)] [] = some r := lim_of ((laws_szFileS_eq k c1 i2).trans h)
noncomputable def pl_laws_szMade : List (Nat × Run) := [(fid_laws_szFileS, run_laws_szFileS)]
noncomputable def G_laws_szMade : Ctx := ctx tyTab fiTab pl_laws_szMade
noncomputable def run_laws_szMade : Run := lim G_laws_szMade fid_laws_szMade
theorem ok_laws_szMade : FnOk Tryd.prog OkT fid_laws_szMade run_laws_szMade := lim_ok (l := pl_laws_szMade) Tryd_mix tyTab_ok fiTab_ok okT (.cons ok_laws_szFileS .nil) fid_laws_szMade
noncomputable def laws_szMade (k m : Nat) (s1 : ByteArray) (c2 : Cell) (s3 : ByteArray) (i4 : Int) : Option Res :=
  cond (decide ((IntKind.i64.wrap (i4 - (s1.size : Int))) < 0))
  (some ([.one (Cell.int (-1))], []))
  ((callS run_laws_szFileS [.one (c2), .one (Cell.int (IntKind.i64.wrap (i4 - (s1.size : Int))))] []).bind fun r5 =>
  cond (shapeOk rk_laws_szFileS r5)
  ((cI .i64 (cellsAt r5 0) 0).bind fun i6 =>
  cond (decide (i6 < 0))
  (some ([.one (Cell.int (-1))], []))
  (cond (decide ((IntKind.i64.wrap (i6 - (s3.size : Int))) < 0))
  (some ([.one (Cell.int (-1))], []))
  (some ([.one (Cell.int (IntKind.i64.wrap (i6 - (s3.size : Int))))], []))))
  none)
theorem laws_szMade_code (k m : Nat) (s1 : ByteArray) (c2 : Cell) (s3 : ByteArray) (i4 : Int) : evC G_laws_szMade fi_laws_szMade (evF G_laws_szMade (k + 1)) m fi_laws_szMade.code none (retK G_laws_szMade fi_laws_szMade) (enter fi_laws_szMade [.agg [Cell.str s1, c2, Cell.str s3], .one (Cell.int i4)] []) = laws_szMade (k + 1) m s1 c2 s3 i4 := by
  kernel_rfl
theorem laws_szMade_eq (k : Nat) (s1 : ByteArray) (c2 : Cell) (s3 : ByteArray) (i4 : Int) : evF G_laws_szMade (k + 2) fid_laws_szMade [.agg [Cell.str s1, c2, Cell.str s3], .one (Cell.int i4)] [] = laws_szMade (k + 1) (k + 1) s1 c2 s3 i4 :=
  Eq.trans (by kernel_rfl) (laws_szMade_code k (k + 1) s1 c2 s3 i4)
theorem run_laws_szMade_of {s1 : ByteArray} {c2 : Cell} {s3 : ByteArray} {i4 : Int} {r : Res} (k : Nat) (h : laws_szMade (k + 1) (k + 1) s1 c2 s3 i4 = some r) : run_laws_szMade [.agg [Cell.str s1, c2, Cell.str s3], .one (Cell.int i4)] [] = some r := lim_of ((laws_szMade_eq k s1 c2 s3 i4).trans h)
noncomputable def pl_laws_toFile : List (Nat × Run) := []
noncomputable def G_laws_toFile : Ctx := ctx tyTab fiTab pl_laws_toFile
noncomputable def run_laws_toFile : Run := lim G_laws_toFile fid_laws_toFile
theorem ok_laws_toFile : FnOk Tryd.prog OkT fid_laws_toFile run_laws_toFile := lim_ok (l := pl_laws_toFile) Tryd_mix tyTab_ok fiTab_ok okT .nil fid_laws_toFile
noncomputable def laws_toFile (k m : Nat) (s1 : ByteArray) (s2 : ByteArray) : Option Res :=
  some ([.agg [Cell.str s1, Cell.str s2]], [])
theorem laws_toFile_code (k m : Nat) (s1 : ByteArray) (s2 : ByteArray) : evC G_laws_toFile fi_laws_toFile (evF G_laws_toFile (k + 1)) m fi_laws_toFile.code none (retK G_laws_toFile fi_laws_toFile) (enter fi_laws_toFile [.agg [Cell.str s1, Cell.str s2]] []) = laws_toFile (k + 1) m s1 s2 := by
  kernel_rfl
theorem laws_toFile_eq (k : Nat) (s1 : ByteArray) (s2 : ByteArray) : evF G_laws_toFile (k + 2) fid_laws_toFile [.agg [Cell.str s1, Cell.str s2]] [] = laws_toFile (k + 1) (k + 1) s1 s2 :=
  Eq.trans (by kernel_rfl) (laws_toFile_code k (k + 1) s1 s2)
theorem run_laws_toFile_of {s1 : ByteArray} {s2 : ByteArray} {r : Res} (k : Nat) (h : laws_toFile (k + 1) (k + 1) s1 s2 = some r) : run_laws_toFile [.agg [Cell.str s1, Cell.str s2]] [] = some r := lim_of ((laws_toFile_eq k s1 s2).trans h)
noncomputable def pl_laws_toFileS : List (Nat × Run) := [(fid_laws_toFile, run_laws_toFile)]
noncomputable def G_laws_toFileS : Ctx := ctx tyTab fiTab pl_laws_toFileS
noncomputable def run_laws_toFileS : Run := lim G_laws_toFileS fid_laws_toFileS
theorem ok_laws_toFileS : FnOk Tryd.prog OkT fid_laws_toFileS run_laws_toFileS := lim_ok (l := pl_laws_toFileS) Tryd_mix tyTab_ok fiTab_ok okT (.cons ok_laws_toFile .nil) fid_laws_toFileS
noncomputable def laws_toFileS_l0 (k m : Nat) : Nat → Cell → Cell → Int → List Entry → Option Res
  | 0, _, _, _, _ => none
  | n + 1, c3, c4, i5, H6 =>
    (lenC c3).bind fun n7 =>
    cond (decide (i5 < (n7 : Int)))
    ((idxA 2 (c3) i5).bind fun c8 =>
    (deref H6 (c8)).bind fun p9 =>
    (cS p9.1 p9.2).bind fun s10 =>
    (cS p9.1 (p9.2 + 1)).bind fun s11 =>
    (callS run_laws_toFile [.agg [Cell.str s10, Cell.str s11]] H6).bind fun r12 =>
    cond (shapeOk rk_laws_toFile r12)
    ((cS (cellsAt r12 0) 0).bind fun s13 =>
    (cS (cellsAt r12 0) 1).bind fun s14 =>
    (idxA 2 (c4) i5).bind fun c15 =>
    (hStore H6 (c15) [Cell.str s13, Cell.str s14]).bind fun h16 =>
    laws_toFileS_l0 k m n (c3) (c4) (IntKind.i64.wrap (i5 + 1)) h16)
    none)
    (some ([.one (c4)], H6))
noncomputable def laws_toFileS (k m : Nat) (c1 : Cell) : Option Res :=
  (lenC c1).bind fun n2 =>
  if 0 ≤ (n2 : Int) ∧ (n2 : Int) ≤ (n2 : Int) ∧ (n2 : Int) * 32 ≤ bound ∧ (n2 : Int) ≤ bound then
  (laws_toFileS_l0 k m m (c1) ((.vs 0 2 0 (n2 : Int).toNat 0)) 0 [Entry.mk 2 (mkRows (n2 : Int).toNat [Cell.str (bs []), Cell.str (bs [])]) 0 false]) else none
noncomputable abbrev laws_toFileS_l0_B (k m : Nat) : (Ex → Fr → Option Res) → Fr → Option Res := evC G_laws_toFileS fi_laws_toFileS (evF G_laws_toFileS (k + 1)) m (sub [1, 1, 0, 1, 2, 3] fi_laws_toFileS.code) none
noncomputable abbrev laws_toFileS_l0_K (k m : Nat) : Ex → Fr → Option Res := blockK 0 (seqK (evC G_laws_toFileS fi_laws_toFileS (evF G_laws_toFileS (k + 1)) m (sub [1, 1, 1] fi_laws_toFileS.code) none) (retK G_laws_toFileS fi_laws_toFileS))
theorem laws_toFileS_l0_eq (k m : Nat) : ∀ (n : Nat) (c3 : Cell) (c4 : Cell) (i5 : Int) (H6 : List Entry), loopK (some [0, 3, 4]) (laws_toFileS_l0_B k m) (laws_toFileS_l0_K k m) n ⟨fT 23 0 [(0, .av (.one (c3))), (3, .av (.one (c4))), (4, .av (.one (Cell.int i5)))], fX 23 0 [], H6⟩ = laws_toFileS_l0 (k + 1) m n c3 c4 i5 H6 := by
  intro n
  induction n with
  | zero => intros; rfl
  | succ n ih =>
    intros
    simp only [laws_toFileS_l0, ← ih]
    kernel_rfl
theorem laws_toFileS_code (k m : Nat) (c1 : Cell) : evC G_laws_toFileS fi_laws_toFileS (evF G_laws_toFileS (k + 1)) m fi_laws_toFileS.code none (retK G_laws_toFileS fi_laws_toFileS) (enter fi_laws_toFileS [.one (c1)] []) = laws_toFileS (k + 1) m c1 := by
  simp only [laws_toFileS, ← laws_toFileS_l0_eq k m]
  kernel_rfl
theorem laws_toFileS_eq (k : Nat) (c1 : Cell) : evF G_laws_toFileS (k + 2) fid_laws_toFileS [.one (c1)] [] = laws_toFileS (k + 1) (k + 1) c1 :=
  Eq.trans (by kernel_rfl) (laws_toFileS_code k (k + 1) c1)
theorem run_laws_toFileS_of {c1 : Cell} {r : Res} (k : Nat) (h : laws_toFileS (k + 1) (k + 1) c1 = some r) : run_laws_toFileS [.one (c1)] [] = some r := lim_of ((laws_toFileS_eq k c1).trans h)
noncomputable def pl_laws_toMade : List (Nat × Run) := [(fid_laws_toFileS, run_laws_toFileS)]
noncomputable def G_laws_toMade : Ctx := ctx tyTab fiTab pl_laws_toMade
noncomputable def run_laws_toMade : Run := lim G_laws_toMade fid_laws_toMade
theorem ok_laws_toMade : FnOk Tryd.prog OkT fid_laws_toMade run_laws_toMade := lim_ok (l := pl_laws_toMade) Tryd_mix tyTab_ok fiTab_ok okT (.cons ok_laws_toFileS .nil) fid_laws_toMade
noncomputable def laws_toMade (k m : Nat) (s1 : ByteArray) (c2 : Cell) (s3 : ByteArray) : Option Res :=
  (callL run_laws_toFileS [.one (c2)] []).bind fun r4 =>
  cond (shapeOk rk_laws_toFileS r4.1)
  ((cC (cellsAt r4.1 0) 0).bind fun c5 =>
  some ([.agg [Cell.str s1, c5, Cell.str s3]], r4.2))
  none
theorem laws_toMade_code (k m : Nat) (s1 : ByteArray) (c2 : Cell) (s3 : ByteArray) : evC G_laws_toMade fi_laws_toMade (evF G_laws_toMade (k + 1)) m fi_laws_toMade.code none (retK G_laws_toMade fi_laws_toMade) (enter fi_laws_toMade [.agg [Cell.str s1, c2, Cell.str s3]] []) = laws_toMade (k + 1) m s1 c2 s3 := by
  kernel_rfl
theorem laws_toMade_eq (k : Nat) (s1 : ByteArray) (c2 : Cell) (s3 : ByteArray) : evF G_laws_toMade (k + 2) fid_laws_toMade [.agg [Cell.str s1, c2, Cell.str s3]] [] = laws_toMade (k + 1) (k + 1) s1 c2 s3 :=
  Eq.trans (by kernel_rfl) (laws_toMade_code k (k + 1) s1 c2 s3)
theorem run_laws_toMade_of {s1 : ByteArray} {c2 : Cell} {s3 : ByteArray} {r : Res} (k : Nat) (h : laws_toMade (k + 1) (k + 1) s1 c2 s3 = some r) : run_laws_toMade [.agg [Cell.str s1, c2, Cell.str s3]] [] = some r := lim_of ((laws_toMade_eq k s1 c2 s3).trans h)
noncomputable def pl_laws_eqFile : List (Nat × Run) := []
noncomputable def G_laws_eqFile : Ctx := ctx tyTab fiTab pl_laws_eqFile
noncomputable def run_laws_eqFile : Run := lim G_laws_eqFile fid_laws_eqFile
theorem ok_laws_eqFile : FnOk Tryd.prog OkT fid_laws_eqFile run_laws_eqFile := lim_ok (l := pl_laws_eqFile) Tryd_mix tyTab_ok fiTab_ok okT .nil fid_laws_eqFile
noncomputable def laws_eqFile (k m : Nat) (s1 : ByteArray) (s2 : ByteArray) (s3 : ByteArray) (s4 : ByteArray) : Option Res :=
  cond (!(s1.toList == s3.toList))
  (some ([.one (Cell.bool false)], []))
  (cond (!(s2.toList == s4.toList))
  (some ([.one (Cell.bool false)], []))
  (some ([.one (Cell.bool true)], [])))
theorem laws_eqFile_code (k m : Nat) (s1 : ByteArray) (s2 : ByteArray) (s3 : ByteArray) (s4 : ByteArray) : evC G_laws_eqFile fi_laws_eqFile (evF G_laws_eqFile (k + 1)) m fi_laws_eqFile.code none (retK G_laws_eqFile fi_laws_eqFile) (enter fi_laws_eqFile [.agg [Cell.str s1, Cell.str s2], .agg [Cell.str s3, Cell.str s4]] []) = laws_eqFile (k + 1) m s1 s2 s3 s4 := by
  kernel_rfl
theorem laws_eqFile_eq (k : Nat) (s1 : ByteArray) (s2 : ByteArray) (s3 : ByteArray) (s4 : ByteArray) : evF G_laws_eqFile (k + 2) fid_laws_eqFile [.agg [Cell.str s1, Cell.str s2], .agg [Cell.str s3, Cell.str s4]] [] = laws_eqFile (k + 1) (k + 1) s1 s2 s3 s4 :=
  Eq.trans (by kernel_rfl) (laws_eqFile_code k (k + 1) s1 s2 s3 s4)
theorem run_laws_eqFile_of {s1 : ByteArray} {s2 : ByteArray} {s3 : ByteArray} {s4 : ByteArray} {r : Res} (k : Nat) (h : laws_eqFile (k + 1) (k + 1) s1 s2 s3 s4 = some r) : run_laws_eqFile [.agg [Cell.str s1, Cell.str s2], .agg [Cell.str s3, Cell.str s4]] [] = some r := lim_of ((laws_eqFile_eq k s1 s2 s3 s4).trans h)
noncomputable def pl_laws_eqFileS : List (Nat × Run) := [(fid_laws_eqFile, run_laws_eqFile)]
noncomputable def G_laws_eqFileS : Ctx := ctx tyTab fiTab pl_laws_eqFileS
noncomputable def run_laws_eqFileS : Run := lim G_laws_eqFileS fid_laws_eqFileS
theorem ok_laws_eqFileS : FnOk Tryd.prog OkT fid_laws_eqFileS run_laws_eqFileS := lim_ok (l := pl_laws_eqFileS) Tryd_mix tyTab_ok fiTab_ok okT (.cons ok_laws_eqFile .nil) fid_laws_eqFileS
noncomputable def laws_eqFileS_l0 (k m : Nat) : Nat → Cell → Cell → Int → Option Res
  | 0, _, _, _ => none
  | n + 1, c5, c6, i7 =>
    (lenC c5).bind fun n8 =>
    cond (decide (i7 < (n8 : Int)))
    ((idxA 2 (c5) i7).bind fun c9 =>
    (deref [] (c9)).bind fun p10 =>
    (cS p10.1 p10.2).bind fun s11 =>
    (cS p10.1 (p10.2 + 1)).bind fun s12 =>
    (idxA 2 (c6) i7).bind fun c13 =>
    (deref [] (c13)).bind fun p14 =>
    (cS p14.1 p14.2).bind fun s15 =>
    (cS p14.1 (p14.2 + 1)).bind fun s16 =>
    (callS run_laws_eqFile [.agg [Cell.str s11, Cell.str s12], .agg [Cell.str s15, Cell.str s16]] []).bind fun r17 =>
    cond (shapeOk rk_laws_eqFile r17)
    ((cB (cellsAt r17 0) 0).bind fun b18 =>
    cond (!b18)
    (some ([.one (Cell.bool false)], []))
    (laws_eqFileS_l0 k m n (c5) (c6) (IntKind.i64.wrap (i7 + 1))))
    none)
    (some ([.one (Cell.bool true)], []))
noncomputable def laws_eqFileS (k m : Nat) (c1 : Cell) (c2 : Cell) : Option Res :=
  (lenC c1).bind fun n3 =>
  (lenC c2).bind fun n4 =>
  cond ((n3 : Int) != (n4 : Int))
  (some ([.one (Cell.bool false)], []))
  (laws_eqFileS_l0 k m m (c1) (c2) 0)
noncomputable abbrev laws_eqFileS_l0_B (k m : Nat) : (Ex → Fr → Option Res) → Fr → Option Res := evC G_laws_eqFileS fi_laws_eqFileS (evF G_laws_eqFileS (k + 1)) m (sub [1, 1, 0, 1, 2, 3] fi_laws_eqFileS.code) none
noncomputable abbrev laws_eqFileS_l0_K (k m : Nat) : Ex → Fr → Option Res := blockK 0 (seqK (evC G_laws_eqFileS fi_laws_eqFileS (evF G_laws_eqFileS (k + 1)) m (sub [1, 1, 1] fi_laws_eqFileS.code) none) (retK G_laws_eqFileS fi_laws_eqFileS))
theorem laws_eqFileS_l0_eq (k m : Nat) : ∀ (n : Nat) (c5 : Cell) (c6 : Cell) (i7 : Int), loopK (some [0, 1, 5]) (laws_eqFileS_l0_B k m) (laws_eqFileS_l0_K k m) n ⟨fT 27 0 [(0, .av (.one (c5))), (1, .av (.one (c6))), (5, .av (.one (Cell.int i7)))], fX 27 0 [], []⟩ = laws_eqFileS_l0 (k + 1) m n c5 c6 i7 := by
  intro n
  induction n with
  | zero => intros; rfl
  | succ n ih =>
    intros
    simp only [laws_eqFileS_l0, ← ih]
    kernel_rfl
theorem laws_eqFileS_code (k m : Nat) (c1 : Cell) (c2 : Cell) : evC G_laws_eqFileS fi_laws_eqFileS (evF G_laws_eqFileS (k + 1)) m fi_laws_eqFileS.code none (retK G_laws_eqFileS fi_laws_eqFileS) (enter fi_laws_eqFileS [.one (c1), .one (c2)] []) = laws_eqFileS (k + 1) m c1 c2 := by
  simp only [laws_eqFileS, ← laws_eqFileS_l0_eq k m]
  kernel_rfl
theorem laws_eqFileS_eq (k : Nat) (c1 : Cell) (c2 : Cell) : evF G_laws_eqFileS (k + 2) fid_laws_eqFileS [.one (c1), .one (c2)] [] = laws_eqFileS (k + 1) (k + 1) c1 c2 :=
  Eq.trans (by kernel_rfl) (laws_eqFileS_code k (k + 1) c1 c2)
theorem run_laws_eqFileS_of {c1 : Cell} {c2 : Cell} {r : Res} (k : Nat) (h : laws_eqFileS (k + 1) (k + 1) c1 c2 = some r) : run_laws_eqFileS [.one (c1), .one (c2)] [] = some r := lim_of ((laws_eqFileS_eq k c1 c2).trans h)
noncomputable def pl_laws_eqMade : List (Nat × Run) := [(fid_laws_eqFileS, run_laws_eqFileS)]
noncomputable def G_laws_eqMade : Ctx := ctx tyTab fiTab pl_laws_eqMade
noncomputable def run_laws_eqMade : Run := lim G_laws_eqMade fid_laws_eqMade
theorem ok_laws_eqMade : FnOk Tryd.prog OkT fid_laws_eqMade run_laws_eqMade := lim_ok (l := pl_laws_eqMade) Tryd_mix tyTab_ok fiTab_ok okT (.cons ok_laws_eqFileS .nil) fid_laws_eqMade
noncomputable def laws_eqMade (k m : Nat) (s1 : ByteArray) (c2 : Cell) (s3 : ByteArray) (s4 : ByteArray) (c5 : Cell) (s6 : ByteArray) : Option Res :=
  cond (!(s1.toList == s4.toList))
  (some ([.one (Cell.bool false)], []))
  ((callS run_laws_eqFileS [.one (c2), .one (c5)] []).bind fun r7 =>
  cond (shapeOk rk_laws_eqFileS r7)
  ((cB (cellsAt r7 0) 0).bind fun b8 =>
  cond (!b8)
  (some ([.one (Cell.bool false)], []))
  (cond (!(s3.toList == s6.toList))
  (some ([.one (Cell.bool false)], []))
  (some ([.one (Cell.bool true)], []))))
  none)
theorem laws_eqMade_code (k m : Nat) (s1 : ByteArray) (c2 : Cell) (s3 : ByteArray) (s4 : ByteArray) (c5 : Cell) (s6 : ByteArray) : evC G_laws_eqMade fi_laws_eqMade (evF G_laws_eqMade (k + 1)) m fi_laws_eqMade.code none (retK G_laws_eqMade fi_laws_eqMade) (enter fi_laws_eqMade [.agg [Cell.str s1, c2, Cell.str s3], .agg [Cell.str s4, c5, Cell.str s6]] []) = laws_eqMade (k + 1) m s1 c2 s3 s4 c5 s6 := by
  kernel_rfl
theorem laws_eqMade_eq (k : Nat) (s1 : ByteArray) (c2 : Cell) (s3 : ByteArray) (s4 : ByteArray) (c5 : Cell) (s6 : ByteArray) : evF G_laws_eqMade (k + 2) fid_laws_eqMade [.agg [Cell.str s1, c2, Cell.str s3], .agg [Cell.str s4, c5, Cell.str s6]] [] = laws_eqMade (k + 1) (k + 1) s1 c2 s3 s4 c5 s6 :=
  Eq.trans (by kernel_rfl) (laws_eqMade_code k (k + 1) s1 c2 s3 s4 c5 s6)
theorem run_laws_eqMade_of {s1 : ByteArray} {c2 : Cell} {s3 : ByteArray} {s4 : ByteArray} {c5 : Cell} {s6 : ByteArray} {r : Res} (k : Nat) (h : laws_eqMade (k + 1) (k + 1) s1 c2 s3 s4 c5 s6 = some r) : run_laws_eqMade [.agg [Cell.str s1, c2, Cell.str s3], .agg [Cell.str s4, c5, Cell.str s6]] [] = some r := lim_of ((laws_eqMade_eq k s1 c2 s3 s4 c5 s6).trans h)
noncomputable def pl_spec_l1In : List (Nat × Run) := []
noncomputable def G_spec_l1In : Ctx := ctx tyTab fiTab pl_spec_l1In
noncomputable def run_spec_l1In : Run := lim G_spec_l1In fid_spec_l1In
theorem ok_spec_l1In : FnOk Tryd.prog OkT fid_spec_l1In run_spec_l1In := lim_ok (l := pl_spec_l1In) Tryd_mix tyTab_ok fiTab_ok okT .nil fid_spec_l1In
noncomputable def spec_l1In (k m : Nat) (i1 : Int) (i2 : Int) (i3 : Int) : Option Res :=
  cond (decide (i1 ≥ i2))
  (some ([.one (Cell.bool (decide (i1 ≤ i3)))], []))
  (some ([.one (Cell.bool false)], []))
theorem spec_l1In_code (k m : Nat) (i1 : Int) (i2 : Int) (i3 : Int) : evC G_spec_l1In fi_spec_l1In (evF G_spec_l1In (k + 1)) m fi_spec_l1In.code none (retK G_spec_l1In fi_spec_l1In) (enter fi_spec_l1In [.one (Cell.int i1), .one (Cell.int i2), .one (Cell.int i3)] []) = spec_l1In (k + 1) m i1 i2 i3 := by
  kernel_rfl
theorem spec_l1In_eq (k : Nat) (i1 : Int) (i2 : Int) (i3 : Int) : evF G_spec_l1In (k + 2) fid_spec_l1In [.one (Cell.int i1), .one (Cell.int i2), .one (Cell.int i3)] [] = spec_l1In (k + 1) (k + 1) i1 i2 i3 :=
  Eq.trans (by kernel_rfl) (spec_l1In_code k (k + 1) i1 i2 i3)
theorem run_spec_l1In_of {i1 : Int} {i2 : Int} {i3 : Int} {r : Res} (k : Nat) (h : spec_l1In (k + 1) (k + 1) i1 i2 i3 = some r) : run_spec_l1In [.one (Cell.int i1), .one (Cell.int i2), .one (Cell.int i3)] [] = some r := lim_of ((spec_l1In_eq k i1 i2 i3).trans h)
noncomputable def pl_spec_l1Digit : List (Nat × Run) := [(fid_spec_l1In, run_spec_l1In)]
noncomputable def G_spec_l1Digit : Ctx := ctx tyTab fiTab pl_spec_l1Digit
noncomputable def run_spec_l1Digit : Run := lim G_spec_l1Digit fid_spec_l1Digit
theorem ok_spec_l1Digit : FnOk Tryd.prog OkT fid_spec_l1Digit run_spec_l1Digit := lim_ok (l := pl_spec_l1Digit) Tryd_mix tyTab_ok fiTab_ok okT (.cons ok_spec_l1In .nil) fid_spec_l1Digit
noncomputable def spec_l1Digit (k m : Nat) (i1 : Int) : Option Res :=
  (callS run_spec_l1In [.one (Cell.int (IntKind.i64.wrap i1)), .one (Cell.int 48), .one (Cell.int 57)] []).bind fun r2 =>
  cond (shapeOk rk_spec_l1In r2)
  ((cB (cellsAt r2 0) 0).bind fun b3 =>
  some ([.one (Cell.bool b3)], []))
  none
theorem spec_l1Digit_code (k m : Nat) (i1 : Int) : evC G_spec_l1Digit fi_spec_l1Digit (evF G_spec_l1Digit (k + 1)) m fi_spec_l1Digit.code none (retK G_spec_l1Digit fi_spec_l1Digit) (enter fi_spec_l1Digit [.one (.sc (.int .u8 i1))] []) = spec_l1Digit (k + 1) m i1 := by
  kernel_rfl
theorem spec_l1Digit_eq (k : Nat) (i1 : Int) : evF G_spec_l1Digit (k + 2) fid_spec_l1Digit [.one (.sc (.int .u8 i1))] [] = spec_l1Digit (k + 1) (k + 1) i1 :=
  Eq.trans (by kernel_rfl) (spec_l1Digit_code k (k + 1) i1)
theorem run_spec_l1Digit_of {i1 : Int} {r : Res} (k : Nat) (h : spec_l1Digit (k + 1) (k + 1) i1 = some r) : run_spec_l1Digit [.one (.sc (.int .u8 i1))] [] = some r := lim_of ((spec_l1Digit_eq k i1).trans h)
noncomputable def pl_spec_l1Small : List (Nat × Run) := [(fid_spec_l1In, run_spec_l1In)]
noncomputable def G_spec_l1Small : Ctx := ctx tyTab fiTab pl_spec_l1Small
noncomputable def run_spec_l1Small : Run := lim G_spec_l1Small fid_spec_l1Small
theorem ok_spec_l1Small : FnOk Tryd.prog OkT fid_spec_l1Small run_spec_l1Small := lim_ok (l := pl_spec_l1Small) Tryd_mix tyTab_ok fiTab_ok okT (.cons ok_spec_l1In .nil) fid_spec_l1Small
noncomputable def spec_l1Small (k m : Nat) (i1 : Int) : Option Res :=
  (callS run_spec_l1In [.one (Cell.int (IntKind.i64.wrap i1)), .one (Cell.int 97), .one (Cell.int 122)] []).bind fun r2 =>
  cond (shapeOk rk_spec_l1In r2)
  ((cB (cellsAt r2 0) 0).bind fun b3 =>
  some ([.one (Cell.bool b3)], []))
  none
theorem spec_l1Small_code (k m : Nat) (i1 : Int) : evC G_spec_l1Small fi_spec_l1Small (evF G_spec_l1Small (k + 1)) m fi_spec_l1Small.code none (retK G_spec_l1Small fi_spec_l1Small) (enter fi_spec_l1Small [.one (.sc (.int .u8 i1))] []) = spec_l1Small (k + 1) m i1 := by
  kernel_rfl
theorem spec_l1Small_eq (k : Nat) (i1 : Int) : evF G_spec_l1Small (k + 2) fid_spec_l1Small [.one (.sc (.int .u8 i1))] [] = spec_l1Small (k + 1) (k + 1) i1 :=
  Eq.trans (by kernel_rfl) (spec_l1Small_code k (k + 1) i1)
theorem run_spec_l1Small_of {i1 : Int} {r : Res} (k : Nat) (h : spec_l1Small (k + 1) (k + 1) i1 = some r) : run_spec_l1Small [.one (.sc (.int .u8 i1))] [] = some r := lim_of ((spec_l1Small_eq k i1).trans h)
noncomputable def pl_spec_l5Letter : List (Nat × Run) := [(fid_spec_l1Digit, run_spec_l1Digit), (fid_spec_l1Small, run_spec_l1Small)]
noncomputable def G_spec_l5Letter : Ctx := ctx tyTab fiTab pl_spec_l5Letter
noncomputable def run_spec_l5Letter : Run := lim G_spec_l5Letter fid_spec_l5Letter
theorem ok_spec_l5Letter : FnOk Tryd.prog OkT fid_spec_l5Letter run_spec_l5Letter := lim_ok (l := pl_spec_l5Letter) Tryd_mix tyTab_ok fiTab_ok okT (.cons ok_spec_l1Digit (.cons ok_spec_l1Small .nil)) fid_spec_l5Letter
noncomputable def spec_l5Letter (k m : Nat) (i1 : Int) : Option Res :=
  (callS run_spec_l1Small [.one (.sc (.int .u8 i1))] []).bind fun r2 =>
  cond (shapeOk rk_spec_l1Small r2)
  ((cB (cellsAt r2 0) 0).bind fun b3 =>
  cond b3
  (some ([.one (Cell.bool true)], []))
  ((callS run_spec_l1Digit [.one (.sc (.int .u8 i1))] []).bind fun r4 =>
  cond (shapeOk rk_spec_l1Digit r4)
  ((cB (cellsAt r4 0) 0).bind fun b5 =>
  cond b5
  (some ([.one (Cell.bool true)], []))
  (cond (i1 == 46)
  (some ([.one (Cell.bool true)], []))
  (cond (i1 == 45)
  (some ([.one (Cell.bool true)], []))
  (some ([.one (Cell.bool (i1 == 95))], [])))))
  none))
  none
theorem spec_l5Letter_code (k m : Nat) (i1 : Int) : evC G_spec_l5Letter fi_spec_l5Letter (evF G_spec_l5Letter (k + 1)) m fi_spec_l5Letter.code none (retK G_spec_l5Letter fi_spec_l5Letter) (enter fi_spec_l5Letter [.one (.sc (.int .u8 i1))] []) = spec_l5Letter (k + 1) m i1 := by
  kernel_rfl
theorem spec_l5Letter_eq (k : Nat) (i1 : Int) : evF G_spec_l5Letter (k + 2) fid_spec_l5Letter [.one (.sc (.int .u8 i1))] [] = spec_l5Letter (k + 1) (k + 1) i1 :=
  Eq.trans (by kernel_rfl) (spec_l5Letter_code k (k + 1) i1)
theorem run_spec_l5Letter_of {i1 : Int} {r : Res} (k : Nat) (h : spec_l5Letter (k + 1) (k + 1) i1 = some r) : run_spec_l5Letter [.one (.sc (.int .u8 i1))] [] = some r := lim_of ((spec_l5Letter_eq k i1).trans h)
noncomputable def pl_spec_l5Name : List (Nat × Run) := [(fid_spec_l1In, run_spec_l1In), (fid_spec_l5Letter, run_spec_l5Letter)]
noncomputable def G_spec_l5Name : Ctx := ctx tyTab fiTab pl_spec_l5Name
noncomputable def run_spec_l5Name : Run := lim G_spec_l5Name fid_spec_l5Name
theorem ok_spec_l5Name : FnOk Tryd.prog OkT fid_spec_l5Name run_spec_l5Name := lim_ok (l := pl_spec_l5Name) Tryd_mix tyTab_ok fiTab_ok okT (.cons ok_spec_l1In (.cons ok_spec_l5Letter .nil)) fid_spec_l5Name
noncomputable def spec_l5Name_l0 (k m : Nat) : Nat → ByteArray → Int → Option Res
  | 0, _, _ => none
  | n + 1, s2, i3 =>
    cond (decide (i3 < (s2.size : Int)))
    ((bytS s2 i3).bind fun i4 =>
    (callS run_spec_l5Letter [.one (.sc (.int .u8 i4))] []).bind fun r5 =>
    cond (shapeOk rk_spec_l5Letter r5)
    ((cB (cellsAt r5 0) 0).bind fun b6 =>
    cond (!b6)
    (some ([.one (Cell.bool false)], []))
    (spec_l5Name_l0 k m n s2 (IntKind.i64.wrap (i3 + 1))))
    none)
    ((callS run_spec_l1In [.one (Cell.int (s2.size : Int)), .one (Cell.int 1), .one (Cell.int 12)] []).bind fun r7 =>
    cond (shapeOk rk_spec_l1In r7)
    ((cB (cellsAt r7 0) 0).bind fun b8 =>
    cond b8
    (cond (!(s2.toList == (bs [46]).toList))
    (some ([.one (Cell.bool (!(s2.toList == (bs [46, 46]).toList)))], []))
    (some ([.one (Cell.bool false)], [])))
    (some ([.one (Cell.bool false)], [])))
    none)
noncomputable def spec_l5Name (k m : Nat) (s1 : ByteArray) : Option Res :=
  spec_l5Name_l0 k m m s1 0
noncomputable abbrev spec_l5Name_l0_B (k m : Nat) : (Ex → Fr → Option Res) → Fr → Option Res := evC G_spec_l5Name fi_spec_l5Name (evF G_spec_l5Name (k + 1)) m (sub [1, 0, 1, 2, 3] fi_spec_l5Name.code) none
noncomputable abbrev spec_l5Name_l0_K (k m : Nat) : Ex → Fr → Option Res := blockK 0 (seqK (evC G_spec_l5Name fi_spec_l5Name (evF G_spec_l5Name (k + 1)) m (sub [1, 1] fi_spec_l5Name.code) none) (retK G_spec_l5Name fi_spec_l5Name))
theorem spec_l5Name_l0_eq (k m : Nat) : ∀ (n : Nat) (s2 : ByteArray) (i3 : Int), loopK (some [0, 3]) (spec_l5Name_l0_B k m) (spec_l5Name_l0_K k m) n ⟨fT 26 0 [(0, .av (.one (Cell.str s2))), (3, .av (.one (Cell.int i3)))], fX 26 0 [], []⟩ = spec_l5Name_l0 (k + 1) m n s2 i3 := by
  intro n
  induction n with
  | zero => intros; rfl
  | succ n ih =>
    intros
    simp only [spec_l5Name_l0, ← ih]
    kernel_rfl
theorem spec_l5Name_code (k m : Nat) (s1 : ByteArray) : evC G_spec_l5Name fi_spec_l5Name (evF G_spec_l5Name (k + 1)) m fi_spec_l5Name.code none (retK G_spec_l5Name fi_spec_l5Name) (enter fi_spec_l5Name [.one (Cell.str s1)] []) = spec_l5Name (k + 1) m s1 := by
  simp only [spec_l5Name, ← spec_l5Name_l0_eq k m]
  kernel_rfl
theorem spec_l5Name_eq (k : Nat) (s1 : ByteArray) : evF G_spec_l5Name (k + 2) fid_spec_l5Name [.one (Cell.str s1)] [] = spec_l5Name (k + 1) (k + 1) s1 :=
  Eq.trans (by kernel_rfl) (spec_l5Name_code k (k + 1) s1)
theorem run_spec_l5Name_of {s1 : ByteArray} {r : Res} (k : Nat) (h : spec_l5Name (k + 1) (k + 1) s1 = some r) : run_spec_l5Name [.one (Cell.str s1)] [] = some r := lim_of ((spec_l5Name_eq k s1).trans h)
noncomputable def pl_spec_Split : List (Nat × Run) := []
noncomputable def G_spec_Split : Ctx := ctx tyTab fiTab pl_spec_Split
noncomputable def run_spec_Split : Run := lim G_spec_Split fid_spec_Split
theorem ok_spec_Split : FnOk Tryd.prog OkT fid_spec_Split run_spec_Split := lim_ok (l := pl_spec_Split) Tryd_mix tyTab_ok fiTab_ok okT .nil fid_spec_Split
noncomputable def spec_Split_l0 (k m : Nat) : Nat → ByteArray → Int → Cell → Int → Int → List Entry → Option Res
  | 0, _, _, _, _, _, _ => none
  | n + 1, s3, i4, c5, i6, i7, H8 =>
    cond (decide (i7 ≤ (s3.size : Int)))
    (cond (i7 == (s3.size : Int))
    ((subS s3 i6 i7).bind fun s9 =>
    (app H8 1 16 (c5) [[Cell.str s9]]).bind fun p10 =>
    spec_Split_l0 k m n s3 i4 (p10.1) (IntKind.i64.wrap (i7 + 1)) (IntKind.i64.wrap (i7 + 1)) p10.2)
    ((bytS s3 i7).bind fun i11 =>
    cond (i11 == i4)
    ((subS s3 i6 i7).bind fun s12 =>
    (app H8 1 16 (c5) [[Cell.str s12]]).bind fun p13 =>
    spec_Split_l0 k m n s3 i4 (p13.1) (IntKind.i64.wrap (i7 + 1)) (IntKind.i64.wrap (i7 + 1)) p13.2)
    (spec_Split_l0 k m n s3 i4 (c5) i6 (IntKind.i64.wrap (i7 + 1)) H8)))
    (some ([.one (c5)], H8))
noncomputable def spec_Split (k m : Nat) (s1 : ByteArray) (i2 : Int) : Option Res :=
  spec_Split_l0 k m m s1 i2 (.lst true 1 []) 0 0 []
noncomputable abbrev spec_Split_l0_B (k m : Nat) : (Ex → Fr → Option Res) → Fr → Option Res := evC G_spec_Split fi_spec_Split (evF G_spec_Split (k + 1)) m (sub [1, 1, 1, 0, 1, 2, 3] fi_spec_Split.code) none
noncomputable abbrev spec_Split_l0_K (k m : Nat) : Ex → Fr → Option Res := blockK 0 (seqK (evC G_spec_Split fi_spec_Split (evF G_spec_Split (k + 1)) m (sub [1, 1, 1, 1] fi_spec_Split.code) none) (retK G_spec_Split fi_spec_Split))
theorem spec_Split_l0_eq (k m : Nat) : ∀ (n : Nat) (s3 : ByteArray) (i4 : Int) (c5 : Cell) (i6 : Int) (i7 : Int) (H8 : List Entry), loopK (some [0, 1, 5, 6, 7]) (spec_Split_l0_B k m) (spec_Split_l0_K k m) n ⟨fT 36 0 [(0, .av (.one (Cell.str s3))), (1, .av (.one (.sc (.int .u8 i4)))), (5, .av (.one (c5))), (6, .av (.one (Cell.int i6))), (7, .av (.one (Cell.int i7)))], fX 36 0 [], H8⟩ = spec_Split_l0 (k + 1) m n s3 i4 c5 i6 i7 H8 := by
  intro n
  induction n with
  | zero => intros; rfl
  | succ n ih =>
    intros
    simp only [spec_Split_l0, ← ih]
    kernel_rfl
theorem spec_Split_code (k m : Nat) (s1 : ByteArray) (i2 : Int) : evC G_spec_Split fi_spec_Split (evF G_spec_Split (k + 1)) m fi_spec_Split.code none (retK G_spec_Split fi_spec_Split) (enter fi_spec_Split [.one (Cell.str s1), .one (.sc (.int .u8 i2))] []) = spec_Split (k + 1) m s1 i2 := by
  simp only [spec_Split, ← spec_Split_l0_eq k m]
  kernel_rfl
theorem spec_Split_eq (k : Nat) (s1 : ByteArray) (i2 : Int) : evF G_spec_Split (k + 2) fid_spec_Split [.one (Cell.str s1), .one (.sc (.int .u8 i2))] [] = spec_Split (k + 1) (k + 1) s1 i2 :=
  Eq.trans (by kernel_rfl) (spec_Split_code k (k + 1) s1 i2)
theorem run_spec_Split_of {s1 : ByteArray} {i2 : Int} {r : Res} (k : Nat) (h : spec_Split (k + 1) (k + 1) s1 i2 = some r) : run_spec_Split [.one (Cell.str s1), .one (.sc (.int .u8 i2))] [] = some r := lim_of ((spec_Split_eq k s1 i2).trans h)
noncomputable def pl_spec_NameOk : List (Nat × Run) := [(fid_spec_l1In, run_spec_l1In), (fid_spec_l1Digit, run_spec_l1Digit), (fid_spec_l1Small, run_spec_l1Small)]
noncomputable def G_spec_NameOk : Ctx := ctx tyTab fiTab pl_spec_NameOk
noncomputable def run_spec_NameOk : Run := lim G_spec_NameOk fid_spec_NameOk
theorem ok_spec_NameOk : FnOk Tryd.prog OkT fid_spec_NameOk run_spec_NameOk := lim_ok (l := pl_spec_NameOk) Tryd_mix tyTab_ok fiTab_ok okT (.cons ok_spec_l1In (.cons ok_spec_l1Digit (.cons ok_spec_l1Small .nil))) fid_spec_NameOk
noncomputable def spec_NameOk_l0 (k m : Nat) : Nat → ByteArray → Int → Option Res
  | 0, _, _ => none
  | n + 1, s2, i3 =>
    cond (decide (i3 < (s2.size : Int)))
    ((bytS s2 i3).bind fun i4 =>
    (callS run_spec_l1Small [.one (.sc (.int .u8 i4))] []).bind fun r5 =>
    cond (shapeOk rk_spec_l1Small r5)
    ((cB (cellsAt r5 0) 0).bind fun b6 =>
    cond (!b6)
    (cond (i3 == 0)
    (some ([.one (Cell.bool false)], []))
    ((bytS s2 i3).bind fun i7 =>
    (callS run_spec_l1Digit [.one (.sc (.int .u8 i7))] []).bind fun r8 =>
    cond (shapeOk rk_spec_l1Digit r8)
    ((cB (cellsAt r8 0) 0).bind fun b9 =>
    cond (!b9)
    ((bytS s2 i3).bind fun i10 =>
    cond (i10 != 45)
    (some ([.one (Cell.bool false)], []))
    (spec_NameOk_l0 k m n s2 (IntKind.i64.wrap (i3 + 1))))
    (spec_NameOk_l0 k m n s2 (IntKind.i64.wrap (i3 + 1))))
    none))
    (spec_NameOk_l0 k m n s2 (IntKind.i64.wrap (i3 + 1))))
    none)
    ((callS run_spec_l1In [.one (Cell.int (s2.size : Int)), .one (Cell.int 1), .one (Cell.int 10)] []).bind fun r11 =>
    cond (shapeOk rk_spec_l1In r11)
    ((cB (cellsAt r11 0) 0).bind fun b12 =>
    some ([.one (Cell.bool b12)], []))
    none)
noncomputable def spec_NameOk (k m : Nat) (s1 : ByteArray) : Option Res :=
  spec_NameOk_l0 k m m s1 0
noncomputable abbrev spec_NameOk_l0_B (k m : Nat) : (Ex → Fr → Option Res) → Fr → Option Res := evC G_spec_NameOk fi_spec_NameOk (evF G_spec_NameOk (k + 1)) m (sub [1, 0, 1, 2, 3] fi_spec_NameOk.code) none
noncomputable abbrev spec_NameOk_l0_K (k m : Nat) : Ex → Fr → Option Res := blockK 0 (seqK (evC G_spec_NameOk fi_spec_NameOk (evF G_spec_NameOk (k + 1)) m (sub [1, 1] fi_spec_NameOk.code) none) (retK G_spec_NameOk fi_spec_NameOk))
theorem spec_NameOk_l0_eq (k m : Nat) : ∀ (n : Nat) (s2 : ByteArray) (i3 : Int), loopK (some [0, 3]) (spec_NameOk_l0_B k m) (spec_NameOk_l0_K k m) n ⟨fT 35 0 [(0, .av (.one (Cell.str s2))), (3, .av (.one (Cell.int i3)))], fX 35 0 [], []⟩ = spec_NameOk_l0 (k + 1) m n s2 i3 := by
  intro n
  induction n with
  | zero => intros; rfl
  | succ n ih =>
    intros
    simp only [spec_NameOk_l0, ← ih]
    kernel_rfl
theorem spec_NameOk_code (k m : Nat) (s1 : ByteArray) : evC G_spec_NameOk fi_spec_NameOk (evF G_spec_NameOk (k + 1)) m fi_spec_NameOk.code none (retK G_spec_NameOk fi_spec_NameOk) (enter fi_spec_NameOk [.one (Cell.str s1)] []) = spec_NameOk (k + 1) m s1 := by
  simp only [spec_NameOk, ← spec_NameOk_l0_eq k m]
  kernel_rfl
theorem spec_NameOk_eq (k : Nat) (s1 : ByteArray) : evF G_spec_NameOk (k + 2) fid_spec_NameOk [.one (Cell.str s1)] [] = spec_NameOk (k + 1) (k + 1) s1 :=
  Eq.trans (by kernel_rfl) (spec_NameOk_code k (k + 1) s1)
theorem run_spec_NameOk_of {s1 : ByteArray} {r : Res} (k : Nat) (h : spec_NameOk (k + 1) (k + 1) s1 = some r) : run_spec_NameOk [.one (Cell.str s1)] [] = some r := lim_of ((spec_NameOk_eq k s1).trans h)
noncomputable def pl_spec_ParseTask : List (Nat × Run) := [(fid_spec_Split, run_spec_Split), (fid_spec_NameOk, run_spec_NameOk)]
noncomputable def G_spec_ParseTask : Ctx := ctx tyTab fiTab pl_spec_ParseTask
noncomputable def run_spec_ParseTask : Run := lim G_spec_ParseTask fid_spec_ParseTask
theorem ok_spec_ParseTask : FnOk Tryd.prog OkT fid_spec_ParseTask run_spec_ParseTask := lim_ok (l := pl_spec_ParseTask) Tryd_mix tyTab_ok fiTab_ok okT (.cons ok_spec_Split (.cons ok_spec_NameOk .nil)) fid_spec_ParseTask
noncomputable def spec_ParseTask (k m : Nat) (s1 : ByteArray) : Option Res :=
  (callL run_spec_Split [.one (Cell.str s1), .one (.sc (.int .u8 35))] []).bind fun r2 =>
  cond (shapeOk rk_spec_Split r2.1)
  ((cC (cellsAt r2.1 0) 0).bind fun c3 =>
  (lenC c3).bind fun n4 =>
  cond ((n4 : Int) != 2)
  (some ([.one (Cell.str (bs [])), .one (Cell.str (bs [])), .one (Cell.bool false)], r2.2))
  ((idxA 1 (c3) 0).bind fun c5 =>
  (deref r2.2 (c5)).bind fun p6 =>
  (cS p6.1 p6.2).bind fun s7 =>
  (callS run_spec_NameOk [.one (Cell.str s7)] r2.2).bind fun r8 =>
  cond (shapeOk rk_spec_NameOk r8)
  ((cB (cellsAt r8 0) 0).bind fun b9 =>
  cond (!b9)
  (some ([.one (Cell.str (bs [])), .one (Cell.str (bs [])), .one (Cell.bool false)], r2.2))
  ((idxA 1 (c3) 1).bind fun c10 =>
  (deref r2.2 (c10)).bind fun p11 =>
  (cS p11.1 p11.2).bind fun s12 =>
  (callS run_spec_NameOk [.one (Cell.str s12)] r2.2).bind fun r13 =>
  cond (shapeOk rk_spec_NameOk r13)
  ((cB (cellsAt r13 0) 0).bind fun b14 =>
  cond (!b14)
  (some ([.one (Cell.str (bs [])), .one (Cell.str (bs [])), .one (Cell.bool false)], r2.2))
  ((idxA 1 (c3) 0).bind fun c15 =>
  (deref r2.2 (c15)).bind fun p16 =>
  (cS p16.1 p16.2).bind fun s17 =>
  (idxA 1 (c3) 1).bind fun c18 =>
  (deref r2.2 (c18)).bind fun p19 =>
  (cS p19.1 p19.2).bind fun s20 =>
  some ([.one (Cell.str s17), .one (Cell.str s20), .one (Cell.bool true)], r2.2)))
  none))
  none))
  none
theorem spec_ParseTask_code (k m : Nat) (s1 : ByteArray) : evC G_spec_ParseTask fi_spec_ParseTask (evF G_spec_ParseTask (k + 1)) m fi_spec_ParseTask.code none (retK G_spec_ParseTask fi_spec_ParseTask) (enter fi_spec_ParseTask [.one (Cell.str s1)] []) = spec_ParseTask (k + 1) m s1 := by
  kernel_rfl
theorem spec_ParseTask_eq (k : Nat) (s1 : ByteArray) : evF G_spec_ParseTask (k + 2) fid_spec_ParseTask [.one (Cell.str s1)] [] = spec_ParseTask (k + 1) (k + 1) s1 :=
  Eq.trans (by kernel_rfl) (spec_ParseTask_code k (k + 1) s1)
theorem run_spec_ParseTask_of {s1 : ByteArray} {r : Res} (k : Nat) (h : spec_ParseTask (k + 1) (k + 1) s1 = some r) : run_spec_ParseTask [.one (Cell.str s1)] [] = some r := lim_of ((spec_ParseTask_eq k s1).trans h)
noncomputable def pl_spec_PathOk : List (Nat × Run) := [(fid_spec_l5Name, run_spec_l5Name), (fid_spec_Split, run_spec_Split)]
noncomputable def G_spec_PathOk : Ctx := ctx tyTab fiTab pl_spec_PathOk
noncomputable def run_spec_PathOk : Run := lim G_spec_PathOk fid_spec_PathOk
theorem ok_spec_PathOk : FnOk Tryd.prog OkT fid_spec_PathOk run_spec_PathOk := lim_ok (l := pl_spec_PathOk) Tryd_mix tyTab_ok fiTab_ok okT (.cons ok_spec_l5Name (.cons ok_spec_Split .nil)) fid_spec_PathOk
noncomputable def spec_PathOk_l0 (k m : Nat) : Nat → Cell → Int → List Entry → Option Res
  | 0, _, _, _ => none
  | n + 1, c4, i5, H6 =>
    (lenC c4).bind fun n7 =>
    cond (decide (i5 < (n7 : Int)))
    ((idxA 1 (c4) i5).bind fun c8 =>
    (deref H6 (c8)).bind fun p9 =>
    (cS p9.1 p9.2).bind fun s10 =>
    (callS run_spec_l5Name [.one (Cell.str s10)] H6).bind fun r11 =>
    cond (shapeOk rk_spec_l5Name r11)
    ((cB (cellsAt r11 0) 0).bind fun b12 =>
    cond (!b12)
    (some ([.one (Cell.bool false)], H6))
    (spec_PathOk_l0 k m n (c4) (IntKind.i64.wrap (i5 + 1)) H6))
    none)
    ((lenC c4).bind fun n13 =>
    some ([.one (Cell.bool (decide ((n13 : Int) ≤ 4)))], H6))
noncomputable def spec_PathOk (k m : Nat) (s1 : ByteArray) : Option Res :=
  (callL run_spec_Split [.one (Cell.str s1), .one (.sc (.int .u8 47))] []).bind fun r2 =>
  cond (shapeOk rk_spec_Split r2.1)
  ((cC (cellsAt r2.1 0) 0).bind fun c3 =>
  spec_PathOk_l0 k m m (c3) 0 r2.2)
  none
noncomputable abbrev spec_PathOk_l0_B (k m : Nat) : (Ex → Fr → Option Res) → Fr → Option Res := evC G_spec_PathOk fi_spec_PathOk (evF G_spec_PathOk (k + 1)) m (sub [1, 1, 0, 1, 2, 3] fi_spec_PathOk.code) none
noncomputable abbrev spec_PathOk_l0_K (k m : Nat) : Ex → Fr → Option Res := blockK 0 (seqK (evC G_spec_PathOk fi_spec_PathOk (evF G_spec_PathOk (k + 1)) m (sub [1, 1, 1] fi_spec_PathOk.code) none) (retK G_spec_PathOk fi_spec_PathOk))
theorem spec_PathOk_l0_eq (k m : Nat) : ∀ (n : Nat) (c4 : Cell) (i5 : Int) (H6 : List Entry), loopK (some [3, 4]) (spec_PathOk_l0_B k m) (spec_PathOk_l0_K k m) n ⟨fT 22 0 [(3, .av (.one (c4))), (4, .av (.one (Cell.int i5)))], fX 22 0 [], H6⟩ = spec_PathOk_l0 (k + 1) m n c4 i5 H6 := by
  intro n
  induction n with
  | zero => intros; rfl
  | succ n ih =>
    intros
    simp only [spec_PathOk_l0, ← ih]
    kernel_rfl
theorem spec_PathOk_code (k m : Nat) (s1 : ByteArray) : evC G_spec_PathOk fi_spec_PathOk (evF G_spec_PathOk (k + 1)) m fi_spec_PathOk.code none (retK G_spec_PathOk fi_spec_PathOk) (enter fi_spec_PathOk [.one (Cell.str s1)] []) = spec_PathOk (k + 1) m s1 := by
  simp only [spec_PathOk, ← spec_PathOk_l0_eq k m]
  kernel_rfl
theorem spec_PathOk_eq (k : Nat) (s1 : ByteArray) : evF G_spec_PathOk (k + 2) fid_spec_PathOk [.one (Cell.str s1)] [] = spec_PathOk (k + 1) (k + 1) s1 :=
  Eq.trans (by kernel_rfl) (spec_PathOk_code k (k + 1) s1)
theorem run_spec_PathOk_of {s1 : ByteArray} {r : Res} (k : Nat) (h : spec_PathOk (k + 1) (k + 1) s1 = some r) : run_spec_PathOk [.one (Cell.str s1)] [] = some r := lim_of ((spec_PathOk_eq k s1).trans h)
noncomputable def pl_spec_FilesOk : List (Nat × Run) := [(fid_spec_PathOk, run_spec_PathOk)]
noncomputable def G_spec_FilesOk : Ctx := ctx tyTab fiTab pl_spec_FilesOk
noncomputable def run_spec_FilesOk : Run := lim G_spec_FilesOk fid_spec_FilesOk
theorem ok_spec_FilesOk : FnOk Tryd.prog OkT fid_spec_FilesOk run_spec_FilesOk := lim_ok (l := pl_spec_FilesOk) Tryd_mix tyTab_ok fiTab_ok okT (.cons ok_spec_PathOk .nil) fid_spec_FilesOk
noncomputable def spec_FilesOk_l0 (k m : Nat) : Nat → Cell → Int → Option Res
  | 0, _, _ => none
  | n + 1, c2, i3 =>
    (lenC c2).bind fun n4 =>
    cond (decide (i3 < (n4 : Int)))
    ((idxA 2 (c2) i3).bind fun c5 =>
    (fldA c5 0).bind fun c6 =>
    (deref [] (c6)).bind fun p7 =>
    (cS p7.1 p7.2).bind fun s8 =>
    (callS run_spec_PathOk [.one (Cell.str s8)] []).bind fun r9 =>
    cond (shapeOk rk_spec_PathOk r9)
    ((cB (cellsAt r9 0) 0).bind fun b10 =>
    cond (!b10)
    (some ([.one (Cell.bool false)], []))
    ((idxA 2 (c2) i3).bind fun c11 =>
    (fldA c11 1).bind fun c12 =>
    (deref [] (c12)).bind fun p13 =>
    (cS p13.1 p13.2).bind fun s14 =>
    cond (decide ((s14.size : Int) > 60))
    (some ([.one (Cell.bool false)], []))
    (cond (decide (i3 > 0))
    ((idxA 2 (c2) (IntKind.i64.wrap (i3 - 1))).bind fun c15 =>
    (fldA c15 0).bind fun c16 =>
    (deref [] (c16)).bind fun p17 =>
    (cS p17.1 p17.2).bind fun s18 =>
    (idxA 2 (c2) i3).bind fun c19 =>
    (fldA c19 0).bind fun c20 =>
    (deref [] (c20)).bind fun p21 =>
    (cS p21.1 p21.2).bind fun s22 =>
    cond (!Op.bytesLess s18.toList s22.toList)
    (some ([.one (Cell.bool false)], []))
    (spec_FilesOk_l0 k m n (c2) (IntKind.i64.wrap (i3 + 1))))
    (spec_FilesOk_l0 k m n (c2) (IntKind.i64.wrap (i3 + 1))))))
    none)
    ((lenC c2).bind fun n23 =>
    some ([.one (Cell.bool (decide ((n23 : Int) ≤ 30)))], []))
noncomputable def spec_FilesOk (k m : Nat) (c1 : Cell) : Option Res :=
  spec_FilesOk_l0 k m m (c1) 0
noncomputable abbrev spec_FilesOk_l0_B (k m : Nat) : (Ex → Fr → Option Res) → Fr → Option Res := evC G_spec_FilesOk fi_spec_FilesOk (evF G_spec_FilesOk (k + 1)) m (sub [1, 0, 1, 2, 3] fi_spec_FilesOk.code) none
noncomputable abbrev spec_FilesOk_l0_K (k m : Nat) : Ex → Fr → Option Res := blockK 0 (seqK (evC G_spec_FilesOk fi_spec_FilesOk (evF G_spec_FilesOk (k + 1)) m (sub [1, 1] fi_spec_FilesOk.code) none) (retK G_spec_FilesOk fi_spec_FilesOk))
theorem spec_FilesOk_l0_eq (k m : Nat) : ∀ (n : Nat) (c2 : Cell) (i3 : Int), loopK (some [0, 3]) (spec_FilesOk_l0_B k m) (spec_FilesOk_l0_K k m) n ⟨fT 47 0 [(0, .av (.one (c2))), (3, .av (.one (Cell.int i3)))], fX 47 0 [], []⟩ = spec_FilesOk_l0 (k + 1) m n c2 i3 := by
  intro n
  induction n with
  | zero => intros; rfl
  | succ n ih =>
    intros
    simp only [spec_FilesOk_l0, ← ih]
    kernel_rfl
theorem spec_FilesOk_code (k m : Nat) (c1 : Cell) : evC G_spec_FilesOk fi_spec_FilesOk (evF G_spec_FilesOk (k + 1)) m fi_spec_FilesOk.code none (retK G_spec_FilesOk fi_spec_FilesOk) (enter fi_spec_FilesOk [.one (c1)] []) = spec_FilesOk (k + 1) m c1 := by
  simp only [spec_FilesOk, ← spec_FilesOk_l0_eq k m]
  kernel_rfl
theorem spec_FilesOk_eq (k : Nat) (c1 : Cell) : evF G_spec_FilesOk (k + 2) fid_spec_FilesOk [.one (c1)] [] = spec_FilesOk (k + 1) (k + 1) c1 :=
  Eq.trans (by kernel_rfl) (spec_FilesOk_code k (k + 1) c1)
theorem run_spec_FilesOk_of {c1 : Cell} {r : Res} (k : Nat) (h : spec_FilesOk (k + 1) (k + 1) c1 = some r) : run_spec_FilesOk [.one (c1)] [] = some r := lim_of ((spec_FilesOk_eq k c1).trans h)
noncomputable def pl_spec_MadeOk : List (Nat × Run) := [(fid_spec_l5Name, run_spec_l5Name), (fid_spec_ParseTask, run_spec_ParseTask), (fid_spec_FilesOk, run_spec_FilesOk)]
noncomputable def G_spec_MadeOk : Ctx := ctx tyTab fiTab pl_spec_MadeOk
noncomputable def run_spec_MadeOk : Run := lim G_spec_MadeOk fid_spec_MadeOk
theorem ok_spec_MadeOk : FnOk Tryd.prog OkT fid_spec_MadeOk run_spec_MadeOk := lim_ok (l := pl_spec_MadeOk) Tryd_mix tyTab_ok fiTab_ok okT (.cons ok_spec_l5Name (.cons ok_spec_ParseTask (.cons ok_spec_FilesOk .nil))) fid_spec_MadeOk
noncomputable def spec_MadeOk_l0 (k m : Nat) : Nat → Bool → Int → ByteArray → Cell → ByteArray → Option Res
  | 0, _, _, _, _, _ => none
  | n + 1, b8, i9, s10, c11, s12 =>
    (lenC c11).bind fun n13 =>
    cond (decide (i9 < (n13 : Int)))
    ((idxA 2 (c11) i9).bind fun c14 =>
    (fldA c14 0).bind fun c15 =>
    (deref [] (c15)).bind fun p16 =>
    (cS p16.1 p16.2).bind fun s17 =>
    (callS run_spec_l5Name [.one (Cell.str s17)] []).bind fun r18 =>
    cond (shapeOk rk_spec_l5Name r18)
    ((cB (cellsAt r18 0) 0).bind fun b19 =>
    cond (!b19)
    (some ([.one (Cell.bool false)], []))
    (spec_MadeOk_l0 k m n b8 (IntKind.i64.wrap (i9 + 1)) s10 (c11) s12))
    none)
    (cond b8
    ((lenC c11).bind fun n20 =>
    cond (decide ((n20 : Int) ≤ 6))
    ((callS run_spec_FilesOk [.one (c11)] []).bind fun r21 =>
    cond (shapeOk rk_spec_FilesOk r21)
    ((cB (cellsAt r21 0) 0).bind fun b22 =>
    cond b22
    (some ([.one (Cell.bool (decide ((s12.size : Int) ≤ 200)))], []))
    (some ([.one (Cell.bool false)], [])))
    none)
    (some ([.one (Cell.bool false)], [])))
    (some ([.one (Cell.bool false)], [])))
noncomputable def spec_MadeOk (k m : Nat) (s1 : ByteArray) (c2 : Cell) (s3 : ByteArray) : Option Res :=
  (callS run_spec_ParseTask [.one (Cell.str s1)] []).bind fun r4 =>
  cond (shapeOk rk_spec_ParseTask r4)
  ((cS (cellsAt r4 0) 0).bind fun s5 =>
  (cS (cellsAt r4 1) 0).bind fun s6 =>
  (cB (cellsAt r4 2) 0).bind fun b7 =>
  spec_MadeOk_l0 k m m b7 0 s1 (c2) s3)
  none
noncomputable abbrev spec_MadeOk_l0_B (k m : Nat) : (Ex → Fr → Option Res) → Fr → Option Res := evC G_spec_MadeOk fi_spec_MadeOk (evF G_spec_MadeOk (k + 1)) m (sub [1, 1, 0, 1, 2, 3] fi_spec_MadeOk.code) none
noncomputable abbrev spec_MadeOk_l0_K (k m : Nat) : Ex → Fr → Option Res := blockK 0 (seqK (evC G_spec_MadeOk fi_spec_MadeOk (evF G_spec_MadeOk (k + 1)) m (sub [1, 1, 1] fi_spec_MadeOk.code) none) (retK G_spec_MadeOk fi_spec_MadeOk))
theorem spec_MadeOk_l0_eq (k m : Nat) : ∀ (n : Nat) (b8 : Bool) (i9 : Int) (s10 : ByteArray) (c11 : Cell) (s12 : ByteArray), loopK (some [1, 5, 6]) (spec_MadeOk_l0_B k m) (spec_MadeOk_l0_K k m) n ⟨fT 47 0 [(1, .loc 1 0), (5, .av (.one (Cell.bool b8))), (6, .av (.one (Cell.int i9)))], fX 47 0 [(1, [Cell.str s10, c11, Cell.str s12])], []⟩ = spec_MadeOk_l0 (k + 1) m n b8 i9 s10 c11 s12 := by
  intro n
  induction n with
  | zero => intros; rfl
  | succ n ih =>
    intros
    simp only [spec_MadeOk_l0, ← ih]
    kernel_rfl
theorem spec_MadeOk_code (k m : Nat) (s1 : ByteArray) (c2 : Cell) (s3 : ByteArray) : evC G_spec_MadeOk fi_spec_MadeOk (evF G_spec_MadeOk (k + 1)) m fi_spec_MadeOk.code none (retK G_spec_MadeOk fi_spec_MadeOk) (enter fi_spec_MadeOk [.agg [Cell.str s1, c2, Cell.str s3]] []) = spec_MadeOk (k + 1) m s1 c2 s3 := by
  simp only [spec_MadeOk, ← spec_MadeOk_l0_eq k m]
  kernel_rfl
theorem spec_MadeOk_eq (k : Nat) (s1 : ByteArray) (c2 : Cell) (s3 : ByteArray) : evF G_spec_MadeOk (k + 2) fid_spec_MadeOk [.agg [Cell.str s1, c2, Cell.str s3]] [] = spec_MadeOk (k + 1) (k + 1) s1 c2 s3 :=
  Eq.trans (by kernel_rfl) (spec_MadeOk_code k (k + 1) s1 c2 s3)
theorem run_spec_MadeOk_of {s1 : ByteArray} {c2 : Cell} {s3 : ByteArray} {r : Res} (k : Nat) (h : spec_MadeOk (k + 1) (k + 1) s1 c2 s3 = some r) : run_spec_MadeOk [.agg [Cell.str s1, c2, Cell.str s3]] [] = some r := lim_of ((spec_MadeOk_eq k s1 c2 s3).trans h)
noncomputable def pl_impl_inRange : List (Nat × Run) := []
noncomputable def G_impl_inRange : Ctx := ctx tyTab fiTab pl_impl_inRange
noncomputable def run_impl_inRange : Run := lim G_impl_inRange fid_impl_inRange
theorem ok_impl_inRange : FnOk Tryd.prog OkT fid_impl_inRange run_impl_inRange := lim_ok (l := pl_impl_inRange) Tryd_mix tyTab_ok fiTab_ok okT .nil fid_impl_inRange
noncomputable def impl_inRange (k m : Nat) (i1 : Int) (i2 : Int) (i3 : Int) : Option Res :=
  cond (decide (i1 ≥ i2))
  (some ([.one (Cell.bool (decide (i1 ≤ i3)))], []))
  (some ([.one (Cell.bool false)], []))
theorem impl_inRange_code (k m : Nat) (i1 : Int) (i2 : Int) (i3 : Int) : evC G_impl_inRange fi_impl_inRange (evF G_impl_inRange (k + 1)) m fi_impl_inRange.code none (retK G_impl_inRange fi_impl_inRange) (enter fi_impl_inRange [.one (Cell.int i1), .one (Cell.int i2), .one (Cell.int i3)] []) = impl_inRange (k + 1) m i1 i2 i3 := by
  kernel_rfl
theorem impl_inRange_eq (k : Nat) (i1 : Int) (i2 : Int) (i3 : Int) : evF G_impl_inRange (k + 2) fid_impl_inRange [.one (Cell.int i1), .one (Cell.int i2), .one (Cell.int i3)] [] = impl_inRange (k + 1) (k + 1) i1 i2 i3 :=
  Eq.trans (by kernel_rfl) (impl_inRange_code k (k + 1) i1 i2 i3)
theorem run_impl_inRange_of {i1 : Int} {i2 : Int} {i3 : Int} {r : Res} (k : Nat) (h : impl_inRange (k + 1) (k + 1) i1 i2 i3 = some r) : run_impl_inRange [.one (Cell.int i1), .one (Cell.int i2), .one (Cell.int i3)] [] = some r := lim_of ((impl_inRange_eq k i1 i2 i3).trans h)
noncomputable def pl_impl_isFigure : List (Nat × Run) := []
noncomputable def G_impl_isFigure : Ctx := ctx tyTab fiTab pl_impl_isFigure
noncomputable def run_impl_isFigure : Run := lim G_impl_isFigure fid_impl_isFigure
theorem ok_impl_isFigure : FnOk Tryd.prog OkT fid_impl_isFigure run_impl_isFigure := lim_ok (l := pl_impl_isFigure) Tryd_mix tyTab_ok fiTab_ok okT .nil fid_impl_isFigure
noncomputable def impl_isFigure (k m : Nat) (i1 : Int) : Option Res :=
  cond (decide (i1 ≥ 48))
  (some ([.one (Cell.bool (decide (i1 ≤ 57)))], []))
  (some ([.one (Cell.bool false)], []))
theorem impl_isFigure_code (k m : Nat) (i1 : Int) : evC G_impl_isFigure fi_impl_isFigure (evF G_impl_isFigure (k + 1)) m fi_impl_isFigure.code none (retK G_impl_isFigure fi_impl_isFigure) (enter fi_impl_isFigure [.one (.sc (.int .u8 i1))] []) = impl_isFigure (k + 1) m i1 := by
  kernel_rfl
theorem impl_isFigure_eq (k : Nat) (i1 : Int) : evF G_impl_isFigure (k + 2) fid_impl_isFigure [.one (.sc (.int .u8 i1))] [] = impl_isFigure (k + 1) (k + 1) i1 :=
  Eq.trans (by kernel_rfl) (impl_isFigure_code k (k + 1) i1)
theorem run_impl_isFigure_of {i1 : Int} {r : Res} (k : Nat) (h : impl_isFigure (k + 1) (k + 1) i1 = some r) : run_impl_isFigure [.one (.sc (.int .u8 i1))] [] = some r := lim_of ((impl_isFigure_eq k i1).trans h)
noncomputable def pl_impl_isSmall : List (Nat × Run) := []
noncomputable def G_impl_isSmall : Ctx := ctx tyTab fiTab pl_impl_isSmall
noncomputable def run_impl_isSmall : Run := lim G_impl_isSmall fid_impl_isSmall
theorem ok_impl_isSmall : FnOk Tryd.prog OkT fid_impl_isSmall run_impl_isSmall := lim_ok (l := pl_impl_isSmall) Tryd_mix tyTab_ok fiTab_ok okT .nil fid_impl_isSmall
noncomputable def impl_isSmall (k m : Nat) (i1 : Int) : Option Res :=
  cond (decide (i1 ≥ 97))
  (some ([.one (Cell.bool (decide (i1 ≤ 122)))], []))
  (some ([.one (Cell.bool false)], []))
theorem impl_isSmall_code (k m : Nat) (i1 : Int) : evC G_impl_isSmall fi_impl_isSmall (evF G_impl_isSmall (k + 1)) m fi_impl_isSmall.code none (retK G_impl_isSmall fi_impl_isSmall) (enter fi_impl_isSmall [.one (.sc (.int .u8 i1))] []) = impl_isSmall (k + 1) m i1 := by
  kernel_rfl
theorem impl_isSmall_eq (k : Nat) (i1 : Int) : evF G_impl_isSmall (k + 2) fid_impl_isSmall [.one (.sc (.int .u8 i1))] [] = impl_isSmall (k + 1) (k + 1) i1 :=
  Eq.trans (by kernel_rfl) (impl_isSmall_code k (k + 1) i1)
theorem run_impl_isSmall_of {i1 : Int} {r : Res} (k : Nat) (h : impl_isSmall (k + 1) (k + 1) i1 = some r) : run_impl_isSmall [.one (.sc (.int .u8 i1))] [] = some r := lim_of ((impl_isSmall_eq k i1).trans h)
noncomputable def pl_impl_NameOk : List (Nat × Run) := [(fid_impl_inRange, run_impl_inRange), (fid_impl_isFigure, run_impl_isFigure), (fid_impl_isSmall, run_impl_isSmall)]
noncomputable def G_impl_NameOk : Ctx := ctx tyTab fiTab pl_impl_NameOk
noncomputable def run_impl_NameOk : Run := lim G_impl_NameOk fid_impl_NameOk
theorem ok_impl_NameOk : FnOk Tryd.prog OkT fid_impl_NameOk run_impl_NameOk := lim_ok (l := pl_impl_NameOk) Tryd_mix tyTab_ok fiTab_ok okT (.cons ok_impl_inRange (.cons ok_impl_isFigure (.cons ok_impl_isSmall .nil))) fid_impl_NameOk
noncomputable def impl_NameOk_l0 (k m : Nat) : Nat → ByteArray → Int → Option Res
  | 0, _, _ => none
  | n + 1, s2, i3 =>
    cond (decide (i3 < (s2.size : Int)))
    ((bytS s2 i3).bind fun i4 =>
    (callS run_impl_isSmall [.one (.sc (.int .u8 i4))] []).bind fun r5 =>
    cond (shapeOk rk_impl_isSmall r5)
    ((cB (cellsAt r5 0) 0).bind fun b6 =>
    cond (!b6)
    (cond (i3 == 0)
    (some ([.one (Cell.bool false)], []))
    ((bytS s2 i3).bind fun i7 =>
    (callS run_impl_isFigure [.one (.sc (.int .u8 i7))] []).bind fun r8 =>
    cond (shapeOk rk_impl_isFigure r8)
    ((cB (cellsAt r8 0) 0).bind fun b9 =>
    cond (!b9)
    ((bytS s2 i3).bind fun i10 =>
    cond (i10 != 45)
    (some ([.one (Cell.bool false)], []))
    (impl_NameOk_l0 k m n s2 (IntKind.i64.wrap (i3 + 1))))
    (impl_NameOk_l0 k m n s2 (IntKind.i64.wrap (i3 + 1))))
    none))
    (impl_NameOk_l0 k m n s2 (IntKind.i64.wrap (i3 + 1))))
    none)
    ((callS run_impl_inRange [.one (Cell.int (s2.size : Int)), .one (Cell.int 1), .one (Cell.int 10)] []).bind fun r11 =>
    cond (shapeOk rk_impl_inRange r11)
    ((cB (cellsAt r11 0) 0).bind fun b12 =>
    some ([.one (Cell.bool b12)], []))
    none)
noncomputable def impl_NameOk (k m : Nat) (s1 : ByteArray) : Option Res :=
  impl_NameOk_l0 k m m s1 0
noncomputable abbrev impl_NameOk_l0_B (k m : Nat) : (Ex → Fr → Option Res) → Fr → Option Res := evC G_impl_NameOk fi_impl_NameOk (evF G_impl_NameOk (k + 1)) m (sub [1, 0, 1, 2, 3] fi_impl_NameOk.code) none
noncomputable abbrev impl_NameOk_l0_K (k m : Nat) : Ex → Fr → Option Res := blockK 0 (seqK (evC G_impl_NameOk fi_impl_NameOk (evF G_impl_NameOk (k + 1)) m (sub [1, 1] fi_impl_NameOk.code) none) (retK G_impl_NameOk fi_impl_NameOk))
theorem impl_NameOk_l0_eq (k m : Nat) : ∀ (n : Nat) (s2 : ByteArray) (i3 : Int), loopK (some [0, 3]) (impl_NameOk_l0_B k m) (impl_NameOk_l0_K k m) n ⟨fT 35 0 [(0, .av (.one (Cell.str s2))), (3, .av (.one (Cell.int i3)))], fX 35 0 [], []⟩ = impl_NameOk_l0 (k + 1) m n s2 i3 := by
  intro n
  induction n with
  | zero => intros; rfl
  | succ n ih =>
    intros
    simp only [impl_NameOk_l0, ← ih]
    kernel_rfl
theorem impl_NameOk_code (k m : Nat) (s1 : ByteArray) : evC G_impl_NameOk fi_impl_NameOk (evF G_impl_NameOk (k + 1)) m fi_impl_NameOk.code none (retK G_impl_NameOk fi_impl_NameOk) (enter fi_impl_NameOk [.one (Cell.str s1)] []) = impl_NameOk (k + 1) m s1 := by
  simp only [impl_NameOk, ← impl_NameOk_l0_eq k m]
  kernel_rfl
theorem impl_NameOk_eq (k : Nat) (s1 : ByteArray) : evF G_impl_NameOk (k + 2) fid_impl_NameOk [.one (Cell.str s1)] [] = impl_NameOk (k + 1) (k + 1) s1 :=
  Eq.trans (by kernel_rfl) (impl_NameOk_code k (k + 1) s1)
theorem run_impl_NameOk_of {s1 : ByteArray} {r : Res} (k : Nat) (h : impl_NameOk (k + 1) (k + 1) s1 = some r) : run_impl_NameOk [.one (Cell.str s1)] [] = some r := lim_of ((impl_NameOk_eq k s1).trans h)
noncomputable def pl_internal_bytealg_Cutover : List (Nat × Run) := []
noncomputable def G_internal_bytealg_Cutover : Ctx := ctx tyTab fiTab pl_internal_bytealg_Cutover
noncomputable def run_internal_bytealg_Cutover : Run := lim G_internal_bytealg_Cutover fid_internal_bytealg_Cutover
theorem ok_internal_bytealg_Cutover : FnOk Tryd.prog OkT fid_internal_bytealg_Cutover run_internal_bytealg_Cutover := lim_ok (l := pl_internal_bytealg_Cutover) Tryd_mix tyTab_ok fiTab_ok okT .nil fid_internal_bytealg_Cutover
noncomputable def internal_bytealg_Cutover (k m : Nat) (i1 : Int) : Option Res :=
  some ([.one (Cell.int (IntKind.i64.wrap ((IntKind.i64.wrap (i1 + 16)).tdiv 8)))], [])
theorem internal_bytealg_Cutover_code (k m : Nat) (i1 : Int) : evC G_internal_bytealg_Cutover fi_internal_bytealg_Cutover (evF G_internal_bytealg_Cutover (k + 1)) m fi_internal_bytealg_Cutover.code none (retK G_internal_bytealg_Cutover fi_internal_bytealg_Cutover) (enter fi_internal_bytealg_Cutover [.one (Cell.int i1)] []) = internal_bytealg_Cutover (k + 1) m i1 := by
  kernel_rfl
theorem internal_bytealg_Cutover_eq (k : Nat) (i1 : Int) : evF G_internal_bytealg_Cutover (k + 2) fid_internal_bytealg_Cutover [.one (Cell.int i1)] [] = internal_bytealg_Cutover (k + 1) (k + 1) i1 :=
  Eq.trans (by kernel_rfl) (internal_bytealg_Cutover_code k (k + 1) i1)
theorem run_internal_bytealg_Cutover_of {i1 : Int} {r : Res} (k : Nat) (h : internal_bytealg_Cutover (k + 1) (k + 1) i1 = some r) : run_internal_bytealg_Cutover [.one (Cell.int i1)] [] = some r := lim_of ((internal_bytealg_Cutover_eq k i1).trans h)
end Go.Ev
