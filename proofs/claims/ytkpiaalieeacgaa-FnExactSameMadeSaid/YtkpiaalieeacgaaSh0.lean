/- What the evaluator says of the functions, each as a Lean function over cells. Printed by a program of this claim. Conditions: none. -/
import Derived.Test.YtkpiaalieeacgaaEvPr
import Derived.KernelRfl
namespace Go.Ev
open Go Go.Proofs
set_option maxRecDepth 100000
set_option linter.unusedVariables false
set_option linter.unusedSimpArgs false
noncomputable def pl_laws_szFile : List (Nat × Run) := []
noncomputable def G_laws_szFile : Ctx := ctx tyTab fiTab pl_laws_szFile
noncomputable def run_laws_szFile : Run := lim G_laws_szFile fid_laws_szFile
theorem ok_laws_szFile : FnOk Try.prog OkT fid_laws_szFile run_laws_szFile := lim_ok (l := pl_laws_szFile) Try_mix tyTab_ok fiTab_ok okT .nil fid_laws_szFile
noncomputable def laws_szFile (k m : Nat) (s1 : ByteArray) (s2 : ByteArray) (i3 : Int) : Option Res :=
  cond (decide ((IntKind.i64.wrap (i3 - (s1.size : Int))) < 0))
  (some ([.one (Cell.int (-1))], []))
  (cond (decide ((IntKind.i64.wrap ((IntKind.i64.wrap (i3 - (s1.size : Int))) - (s2.size : Int))) < 0))
  (some ([.one (Cell.int (-1))], []))
  (some ([.one (Cell.int (IntKind.i64.wrap ((IntKind.i64.wrap (i3 - (s1.size : Int))) - (s2.size : Int))))], [])))
theorem laws_szFile_code (k m : Nat) (s1 : ByteArray) (s2 : ByteArray) (i3 : Int) : evC G_laws_szFile fi_laws_szFile (evF G_laws_szFile (k + 1)) m fi_laws_szFile.code none (retK G_laws_szFile fi_laws_szFile) (enter fi_laws_szFile [.agg [Cell.str s1, Cell.str s2], .one (Cell.int i3)] []) = laws_szFile (k + 1) m s1 s2 i3 := by
  kernel_rfl
theorem laws_szFile_eq (k : Nat) (s1 : ByteArray) (s2 : ByteArray) (i3 : Int) : evF G_laws_szFile (k + 2) fid_laws_szFile [.agg [Cell.str s1, Cell.str s2], .one (Cell.int i3)] [] = laws_szFile (k + 1) (k + 1) s1 s2 i3 :=
  Eq.trans (by kernel_rfl) (laws_szFile_code k (k + 1) s1 s2 i3)
theorem run_laws_szFile_of {s1 : ByteArray} {s2 : ByteArray} {i3 : Int} {r : Res} (k : Nat) (h : laws_szFile (k + 1) (k + 1) s1 s2 i3 = some r) : run_laws_szFile [.agg [Cell.str s1, Cell.str s2], .one (Cell.int i3)] [] = some r := lim_of ((laws_szFile_eq k s1 s2 i3).trans h)
noncomputable def pl_laws_szFileS : List (Nat × Run) := [(fid_laws_szFile, run_laws_szFile)]
noncomputable def G_laws_szFileS : Ctx := ctx tyTab fiTab pl_laws_szFileS
noncomputable def run_laws_szFileS : Run := lim G_laws_szFileS fid_laws_szFileS
theorem ok_laws_szFileS : FnOk Try.prog OkT fid_laws_szFileS run_laws_szFileS := lim_ok (l := pl_laws_szFileS) Try_mix tyTab_ok fiTab_ok okT (.cons ok_laws_szFile .nil) fid_laws_szFileS
noncomputable def laws_szFileS_l0 (k m : Nat) : Nat → Cell → Int → Int → Option Res
  | 0, _, _, _ => none
  | n + 1, c4, i5, i6 =>
    (lenC c4).bind fun n7 =>
    cond (decide (i6 < (n7 : Int)))
    ((idxA 2 (c4) i6).bind fun c8 =>
    (deref [] (c8)).bind fun p9 =>
    (cS p9.1 p9.2).bind fun s10 =>
    (cS p9.1 (p9.2 + 1)).bind fun s11 =>
    (callS run_laws_szFile [.agg [Cell.str s10, Cell.str s11], .one (Cell.int i5)] []).bind fun r12 =>
    cond (shapeOk rk_laws_szFile r12)
    ((cI .i64 (cellsAt r12 0) 0).bind fun i13 =>
    cond (decide (i13 < 0))
    (some ([.one (Cell.int (-1))], []))
    (laws_szFileS_l0 k m n (c4) i13 (IntKind.i64.wrap (i6 + 1))))
    none)
    (some ([.one (Cell.int i5)], []))
noncomputable def laws_szFileS (k m : Nat) (c1 : Cell) (i2 : Int) : Option Res :=
  (lenC c1).bind fun n3 =>
  cond (decide ((IntKind.i64.wrap (i2 - (n3 : Int))) < 0))
  (some ([.one (Cell.int (-1))], []))
  (laws_szFileS_l0 k m m (c1) (IntKind.i64.wrap (i2 - (n3 : Int))) 0)
noncomputable abbrev laws_szFileS_l0_B (k m : Nat) : (Ex → Fr → Option Res) → Fr → Option Res := evC G_laws_szFileS fi_laws_szFileS (evF G_laws_szFileS (k + 1)) m (sub [1, 1, 1, 0, 1, 2, 3] fi_laws_szFileS.code) none
noncomputable abbrev laws_szFileS_l0_K (k m : Nat) : Ex → Fr → Option Res := blockK 0 (seqK (evC G_laws_szFileS fi_laws_szFileS (evF G_laws_szFileS (k + 1)) m (sub [1, 1, 1, 1] fi_laws_szFileS.code) none) (retK G_laws_szFileS fi_laws_szFileS))
theorem laws_szFileS_l0_eq (k m : Nat) : ∀ (n : Nat) (c4 : Cell) (i5 : Int) (i6 : Int), loopK (some [0, 1, 5]) (laws_szFileS_l0_B k m) (laws_szFileS_l0_K k m) n ⟨fT 27 0 [(0, .av (.one (c4))), (1, .av (.one (Cell.int i5))), (5, .av (.one (Cell.int i6)))], fX 27 0 [], []⟩ = laws_szFileS_l0 (k + 1) m n c4 i5 i6 := by
  intro n
  induction n with
  | zero => intros; rfl
  | succ n ih =>
    intros
    simp only [laws_szFileS_l0, ← ih]
    kernel_rfl
theorem laws_szFileS_code (k m : Nat) (c1 : Cell) (i2 : Int) : evC G_laws_szFileS fi_laws_szFileS (evF G_laws_szFileS (k + 1)) m fi_laws_szFileS.code none (retK G_laws_szFileS fi_laws_szFileS) (enter fi_laws_szFileS [.one (c1), .one (Cell.int i2)] []) = laws_szFileS (k + 1) m c1 i2 := by
  simp only [laws_szFileS, ← laws_szFileS_l0_eq k m]
  kernel_rfl
theorem laws_szFileS_eq (k : Nat) (c1 : Cell) (i2 : Int) : evF G_laws_szFileS (k + 2) fid_laws_szFileS [.one (c1), .one (Cell.int i2)] [] = laws_szFileS (k + 1) (k + 1) c1 i2 :=
  Eq.trans (by kernel_rfl) (laws_szFileS_code k (k + 1) c1 i2)
theorem run_laws_szFileS_of {c1 : Cell} {i2 : Int} {r : Res} (k : Nat) (h : laws_szFileS (k + 1) (k + 1) c1 i2 = some r) : run_laws_szFileS [.one (c1), .one (Cell.int i2)] [] = some r := lim_of ((laws_szFileS_eq k c1 i2).trans h)
noncomputable def pl_laws_szMade : List (Nat × Run) := [(fid_laws_szFileS, run_laws_szFileS)]
noncomputable def G_laws_szMade : Ctx := ctx tyTab fiTab pl_laws_szMade
noncomputable def run_laws_szMade : Run := lim G_laws_szMade fid_laws_szMade
theorem ok_laws_szMade : FnOk Try.prog OkT fid_laws_szMade run_laws_szMade := lim_ok (l := pl_laws_szMade) Try_mix tyTab_ok fiTab_ok okT (.cons ok_laws_szFileS .nil) fid_laws_szMade
noncomputable def laws_szMade (k m : Nat) (s1 : ByteArray) (c2 : Cell) (s3 : ByteArray) (i4 : Int) : Option Res :=
  cond (decide ((IntKind.i64.wrap (i4 - (s1.size : Int))) < 0))
  (some ([.one (Cell.int (-1))], []))
  ((callS run_laws_szFileS [.one (c2), .one (Cell.int (IntKind.i64.wrap (i4 - (s1.size : Int))))] []).bind fun r5 =>
  cond (shapeOk rk_laws_szFileS r5)
  ((cI .i64 (cellsAt r5 0) 0).bind fun i6 =>
  cond (decide (i6 < 0))
  (some ([.one (Cell.int (-1))], []))
  (cond (decide ((IntKind.i64.wrap (i6 - (s3.size : Int))) < 0))
  (some ([.one (Cell.int (-1))], []))
  (some ([.one (Cell.int (IntKind.i64.wrap (i6 - (s3.size : Int))))], []))))
  none)
theorem laws_szMade_code (k m : Nat) (s1 : ByteArray) (c2 : Cell) (s3 : ByteArray) (i4 : Int) : evC G_laws_szMade fi_laws_szMade (evF G_laws_szMade (k + 1)) m fi_laws_szMade.code none (retK G_laws_szMade fi_laws_szMade) (enter fi_laws_szMade [.agg [Cell.str s1, c2, Cell.str s3], .one (Cell.int i4)] []) = laws_szMade (k + 1) m s1 c2 s3 i4 := by
  kernel_rfl
theorem laws_szMade_eq (k : Nat) (s1 : ByteArray) (c2 : Cell) (s3 : ByteArray) (i4 : Int) : evF G_laws_szMade (k + 2) fid_laws_szMade [.agg [Cell.str s1, c2, Cell.str s3], .one (Cell.int i4)] [] = laws_szMade (k + 1) (k + 1) s1 c2 s3 i4 :=
  Eq.trans (by kernel_rfl) (laws_szMade_code k (k + 1) s1 c2 s3 i4)
theorem run_laws_szMade_of {s1 : ByteArray} {c2 : Cell} {s3 : ByteArray} {i4 : Int} {r : Res} (k : Nat) (h : laws_szMade (k + 1) (k + 1) s1 c2 s3 i4 = some r) : run_laws_szMade [.agg [Cell.str s1, c2, Cell.str s3], .one (Cell.int i4)] [] = some r := lim_of ((laws_szMade_eq k s1 c2 s3 i4).trans h)
noncomputable def pl_spec_l16SameFiles : List (Nat × Run) := []
noncomputable def G_spec_l16SameFiles : Ctx := ctx tyTab fiTab pl_spec_l16SameFiles
noncomputable def run_spec_l16SameFiles : Run := lim G_spec_l16SameFiles fid_spec_l16SameFiles
theorem ok_spec_l16SameFiles : FnOk Try.prog OkT fid_spec_l16SameFiles run_spec_l16SameFiles := lim_ok (l := pl_spec_l16SameFiles) Try_mix tyTab_ok fiTab_ok okT .nil fid_spec_l16SameFiles
noncomputable def spec_l16SameFiles_l0 (k m : Nat) : Nat → Cell → Cell → Int → Option Res
  | 0, _, _, _ => none
  | n + 1, c5, c6, i7 =>
    (lenC c5).bind fun n8 =>
    cond (decide (i7 < (n8 : Int)))
    ((idxA 2 (c5) i7).bind fun c9 =>
    (deref [] (c9)).bind fun p10 =>
    (cS p10.1 p10.2).bind fun s11 =>
    (cS p10.1 (p10.2 + 1)).bind fun s12 =>
    (idxA 2 (c6) i7).bind fun c13 =>
    (deref [] (c13)).bind fun p14 =>
    (cS p14.1 p14.2).bind fun s15 =>
    (cS p14.1 (p14.2 + 1)).bind fun s16 =>
    (eqCells [.str, .str] [Cell.str s11, Cell.str s12] [Cell.str s15, Cell.str s16]).bind fun b17 =>
    cond (!b17)
    (some ([.one (Cell.bool false)], []))
    (spec_l16SameFiles_l0 k m n (c5) (c6) (IntKind.i64.wrap (i7 + 1))))
    (some ([.one (Cell.bool true)], []))
noncomputable def spec_l16SameFiles (k m : Nat) (c1 : Cell) (c2 : Cell) : Option Res :=
  (lenC c1).bind fun n3 =>
  (lenC c2).bind fun n4 =>
  cond ((n3 : Int) != (n4 : Int))
  (some ([.one (Cell.bool false)], []))
  (spec_l16SameFiles_l0 k m m (c1) (c2) 0)
noncomputable abbrev spec_l16SameFiles_l0_B (k m : Nat) : (Ex → Fr → Option Res) → Fr → Option Res := evC G_spec_l16SameFiles fi_spec_l16SameFiles (evF G_spec_l16SameFiles (k + 1)) m (sub [1, 1, 0, 1, 2, 3] fi_spec_l16SameFiles.code) none
noncomputable abbrev spec_l16SameFiles_l0_K (k m : Nat) : Ex → Fr → Option Res := blockK 0 (seqK (evC G_spec_l16SameFiles fi_spec_l16SameFiles (evF G_spec_l16SameFiles (k + 1)) m (sub [1, 1, 1] fi_spec_l16SameFiles.code) none) (retK G_spec_l16SameFiles fi_spec_l16SameFiles))
theorem spec_l16SameFiles_l0_eq (k m : Nat) : ∀ (n : Nat) (c5 : Cell) (c6 : Cell) (i7 : Int), loopK (some [0, 1, 5]) (spec_l16SameFiles_l0_B k m) (spec_l16SameFiles_l0_K k m) n ⟨fT 26 0 [(0, .av (.one (c5))), (1, .av (.one (c6))), (5, .av (.one (Cell.int i7)))], fX 26 0 [], []⟩ = spec_l16SameFiles_l0 (k + 1) m n c5 c6 i7 := by
  intro n
  induction n with
  | zero => intros; rfl
  | succ n ih =>
    intros
    simp only [spec_l16SameFiles_l0, ← ih]
    kernel_rfl
theorem spec_l16SameFiles_code (k m : Nat) (c1 : Cell) (c2 : Cell) : evC G_spec_l16SameFiles fi_spec_l16SameFiles (evF G_spec_l16SameFiles (k + 1)) m fi_spec_l16SameFiles.code none (retK G_spec_l16SameFiles fi_spec_l16SameFiles) (enter fi_spec_l16SameFiles [.one (c1), .one (c2)] []) = spec_l16SameFiles (k + 1) m c1 c2 := by
  simp only [spec_l16SameFiles, ← spec_l16SameFiles_l0_eq k m]
  kernel_rfl
theorem spec_l16SameFiles_eq (k : Nat) (c1 : Cell) (c2 : Cell) : evF G_spec_l16SameFiles (k + 2) fid_spec_l16SameFiles [.one (c1), .one (c2)] [] = spec_l16SameFiles (k + 1) (k + 1) c1 c2 :=
  Eq.trans (by kernel_rfl) (spec_l16SameFiles_code k (k + 1) c1 c2)
theorem run_spec_l16SameFiles_of {c1 : Cell} {c2 : Cell} {r : Res} (k : Nat) (h : spec_l16SameFiles (k + 1) (k + 1) c1 c2 = some r) : run_spec_l16SameFiles [.one (c1), .one (c2)] [] = some r := lim_of ((spec_l16SameFiles_eq k c1 c2).trans h)
noncomputable def pl_spec_SameMade : List (Nat × Run) := [(fid_spec_l16SameFiles, run_spec_l16SameFiles)]
noncomputable def G_spec_SameMade : Ctx := ctx tyTab fiTab pl_spec_SameMade
noncomputable def run_spec_SameMade : Run := lim G_spec_SameMade fid_spec_SameMade
theorem ok_spec_SameMade : FnOk Try.prog OkT fid_spec_SameMade run_spec_SameMade := lim_ok (l := pl_spec_SameMade) Try_mix tyTab_ok fiTab_ok okT (.cons ok_spec_l16SameFiles .nil) fid_spec_SameMade
noncomputable def spec_SameMade (k m : Nat) (s1 : ByteArray) (c2 : Cell) (s3 : ByteArray) (s4 : ByteArray) (c5 : Cell) (s6 : ByteArray) : Option Res :=
  cond (s1.toList == s4.toList)
  (cond (s3.toList == s6.toList)
  ((callS run_spec_l16SameFiles [.one (c2), .one (c5)] []).bind fun r7 =>
  cond (shapeOk rk_spec_l16SameFiles r7)
  ((cB (cellsAt r7 0) 0).bind fun b8 =>
  some ([.one (Cell.bool b8)], []))
  none)
  (some ([.one (Cell.bool false)], [])))
  (some ([.one (Cell.bool false)], []))
theorem spec_SameMade_code (k m : Nat) (s1 : ByteArray) (c2 : Cell) (s3 : ByteArray) (s4 : ByteArray) (c5 : Cell) (s6 : ByteArray) : evC G_spec_SameMade fi_spec_SameMade (evF G_spec_SameMade (k + 1)) m fi_spec_SameMade.code none (retK G_spec_SameMade fi_spec_SameMade) (enter fi_spec_SameMade [.agg [Cell.str s1, c2, Cell.str s3], .agg [Cell.str s4, c5, Cell.str s6]] []) = spec_SameMade (k + 1) m s1 c2 s3 s4 c5 s6 := by
  kernel_rfl
theorem spec_SameMade_eq (k : Nat) (s1 : ByteArray) (c2 : Cell) (s3 : ByteArray) (s4 : ByteArray) (c5 : Cell) (s6 : ByteArray) : evF G_spec_SameMade (k + 2) fid_spec_SameMade [.agg [Cell.str s1, c2, Cell.str s3], .agg [Cell.str s4, c5, Cell.str s6]] [] = spec_SameMade (k + 1) (k + 1) s1 c2 s3 s4 c5 s6 :=
  Eq.trans (by kernel_rfl) (spec_SameMade_code k (k + 1) s1 c2 s3 s4 c5 s6)
theorem run_spec_SameMade_of {s1 : ByteArray} {c2 : Cell} {s3 : ByteArray} {s4 : ByteArray} {c5 : Cell} {s6 : ByteArray} {r : Res} (k : Nat) (h : spec_SameMade (k + 1) (k + 1) s1 c2 s3 s4 c5 s6 = some r) : run_spec_SameMade [.agg [Cell.str s1, c2, Cell.str s3], .agg [Cell.str s4, c5, Cell.str s6]] [] = some r := lim_of ((spec_SameMade_eq k s1 c2 s3 s4 c5 s6).trans h)
noncomputable def pl_laws_toFile : List (Nat × Run) := []
noncomputable def G_laws_toFile : Ctx := ctx tyTab fiTab pl_laws_toFile
noncomputable def run_laws_toFile : Run := lim G_laws_toFile fid_laws_toFile
theorem ok_laws_toFile : FnOk Try.prog OkT fid_laws_toFile run_laws_toFile := lim_ok (l := pl_laws_toFile) Try_mix tyTab_ok fiTab_ok okT .nil fid_laws_toFile
noncomputable def laws_toFile (k m : Nat) (s1 : ByteArray) (s2 : ByteArray) : Option Res :=
  some ([.agg [Cell.str s1, Cell.str s2]], [])
theorem laws_toFile_code (k m : Nat) (s1 : ByteArray) (s2 : ByteArray) : evC G_laws_toFile fi_laws_toFile (evF G_laws_toFile (k + 1)) m fi_laws_toFile.code none (retK G_laws_toFile fi_laws_toFile) (enter fi_laws_toFile [.agg [Cell.str s1, Cell.str s2]] []) = laws_toFile (k + 1) m s1 s2 := by
  kernel_rfl
theorem laws_toFile_eq (k : Nat) (s1 : ByteArray) (s2 : ByteArray) : evF G_laws_toFile (k + 2) fid_laws_toFile [.agg [Cell.str s1, Cell.str s2]] [] = laws_toFile (k + 1) (k + 1) s1 s2 :=
  Eq.trans (by kernel_rfl) (laws_toFile_code k (k + 1) s1 s2)
theorem run_laws_toFile_of {s1 : ByteArray} {s2 : ByteArray} {r : Res} (k : Nat) (h : laws_toFile (k + 1) (k + 1) s1 s2 = some r) : run_laws_toFile [.agg [Cell.str s1, Cell.str s2]] [] = some r := lim_of ((laws_toFile_eq k s1 s2).trans h)
noncomputable def pl_laws_toFileS : List (Nat × Run) := [(fid_laws_toFile, run_laws_toFile)]
noncomputable def G_laws_toFileS : Ctx := ctx tyTab fiTab pl_laws_toFileS
noncomputable def run_laws_toFileS : Run := lim G_laws_toFileS fid_laws_toFileS
theorem ok_laws_toFileS : FnOk Try.prog OkT fid_laws_toFileS run_laws_toFileS := lim_ok (l := pl_laws_toFileS) Try_mix tyTab_ok fiTab_ok okT (.cons ok_laws_toFile .nil) fid_laws_toFileS
noncomputable def laws_toFileS_l0 (k m : Nat) : Nat → Cell → Cell → Int → List Entry → Option Res
  | 0, _, _, _, _ => none
  | n + 1, c3, c4, i5, H6 =>
    (lenC c3).bind fun n7 =>
    cond (decide (i5 < (n7 : Int)))
    ((idxA 2 (c3) i5).bind fun c8 =>
    (deref H6 (c8)).bind fun p9 =>
    (cS p9.1 p9.2).bind fun s10 =>
    (cS p9.1 (p9.2 + 1)).bind fun s11 =>
    (callS run_laws_toFile [.agg [Cell.str s10, Cell.str s11]] H6).bind fun r12 =>
    cond (shapeOk rk_laws_toFile r12)
    ((cS (cellsAt r12 0) 0).bind fun s13 =>
    (cS (cellsAt r12 0) 1).bind fun s14 =>
    (idxA 2 (c4) i5).bind fun c15 =>
    (hStore H6 (c15) [Cell.str s13, Cell.str s14]).bind fun h16 =>
    laws_toFileS_l0 k m n (c3) (c4) (IntKind.i64.wrap (i5 + 1)) h16)
    none)
    (some ([.one (c4)], H6))
noncomputable def laws_toFileS (k m : Nat) (c1 : Cell) : Option Res :=
  (lenC c1).bind fun n2 =>
  if 0 ≤ (n2 : Int) ∧ (n2 : Int) ≤ (n2 : Int) ∧ (n2 : Int) * 32 ≤ bound ∧ (n2 : Int) ≤ bound then
  (laws_toFileS_l0 k m m (c1) ((.vs 0 2 0 (n2 : Int).toNat 0)) 0 [Entry.mk 2 (mkRows (n2 : Int).toNat [Cell.str (bs []), Cell.str (bs [])]) 0 false]) else none
noncomputable abbrev laws_toFileS_l0_B (k m : Nat) : (Ex → Fr → Option Res) → Fr → Option Res := evC G_laws_toFileS fi_laws_toFileS (evF G_laws_toFileS (k + 1)) m (sub [1, 1, 0, 1, 2, 3] fi_laws_toFileS.code) none
noncomputable abbrev laws_toFileS_l0_K (k m : Nat) : Ex → Fr → Option Res := blockK 0 (seqK (evC G_laws_toFileS fi_laws_toFileS (evF G_laws_toFileS (k + 1)) m (sub [1, 1, 1] fi_laws_toFileS.code) none) (retK G_laws_toFileS fi_laws_toFileS))
theorem laws_toFileS_l0_eq (k m : Nat) : ∀ (n : Nat) (c3 : Cell) (c4 : Cell) (i5 : Int) (H6 : List Entry), loopK (some [0, 3, 4]) (laws_toFileS_l0_B k m) (laws_toFileS_l0_K k m) n ⟨fT 23 0 [(0, .av (.one (c3))), (3, .av (.one (c4))), (4, .av (.one (Cell.int i5)))], fX 23 0 [], H6⟩ = laws_toFileS_l0 (k + 1) m n c3 c4 i5 H6 := by
  intro n
  induction n with
  | zero => intros; rfl
  | succ n ih =>
    intros
    simp only [laws_toFileS_l0, ← ih]
    kernel_rfl
theorem laws_toFileS_code (k m : Nat) (c1 : Cell) : evC G_laws_toFileS fi_laws_toFileS (evF G_laws_toFileS (k + 1)) m fi_laws_toFileS.code none (retK G_laws_toFileS fi_laws_toFileS) (enter fi_laws_toFileS [.one (c1)] []) = laws_toFileS (k + 1) m c1 := by
  simp only [laws_toFileS, ← laws_toFileS_l0_eq k m]
  kernel_rfl
theorem laws_toFileS_eq (k : Nat) (c1 : Cell) : evF G_laws_toFileS (k + 2) fid_laws_toFileS [.one (c1)] [] = laws_toFileS (k + 1) (k + 1) c1 :=
  Eq.trans (by kernel_rfl) (laws_toFileS_code k (k + 1) c1)
theorem run_laws_toFileS_of {c1 : Cell} {r : Res} (k : Nat) (h : laws_toFileS (k + 1) (k + 1) c1 = some r) : run_laws_toFileS [.one (c1)] [] = some r := lim_of ((laws_toFileS_eq k c1).trans h)
noncomputable def pl_laws_toMade : List (Nat × Run) := [(fid_laws_toFileS, run_laws_toFileS)]
noncomputable def G_laws_toMade : Ctx := ctx tyTab fiTab pl_laws_toMade
noncomputable def run_laws_toMade : Run := lim G_laws_toMade fid_laws_toMade
theorem ok_laws_toMade : FnOk Try.prog OkT fid_laws_toMade run_laws_toMade := lim_ok (l := pl_laws_toMade) Try_mix tyTab_ok fiTab_ok okT (.cons ok_laws_toFileS .nil) fid_laws_toMade
noncomputable def laws_toMade (k m : Nat) (s1 : ByteArray) (c2 : Cell) (s3 : ByteArray) : Option Res :=
  (callL run_laws_toFileS [.one (c2)] []).bind fun r4 =>
  cond (shapeOk rk_laws_toFileS r4.1)
  ((cC (cellsAt r4.1 0) 0).bind fun c5 =>
  some ([.agg [Cell.str s1, c5, Cell.str s3]], r4.2))
  none
theorem laws_toMade_code (k m : Nat) (s1 : ByteArray) (c2 : Cell) (s3 : ByteArray) : evC G_laws_toMade fi_laws_toMade (evF G_laws_toMade (k + 1)) m fi_laws_toMade.code none (retK G_laws_toMade fi_laws_toMade) (enter fi_laws_toMade [.agg [Cell.str s1, c2, Cell.str s3]] []) = laws_toMade (k + 1) m s1 c2 s3 := by
  kernel_rfl
theorem laws_toMade_eq (k : Nat) (s1 : ByteArray) (c2 : Cell) (s3 : ByteArray) : evF G_laws_toMade (k + 2) fid_laws_toMade [.agg [Cell.str s1, c2, Cell.str s3]] [] = laws_toMade (k + 1) (k + 1) s1 c2 s3 :=
  Eq.trans (by kernel_rfl) (laws_toMade_code k (k + 1) s1 c2 s3)
theorem run_laws_toMade_of {s1 : ByteArray} {c2 : Cell} {s3 : ByteArray} {r : Res} (k : Nat) (h : laws_toMade (k + 1) (k + 1) s1 c2 s3 = some r) : run_laws_toMade [.agg [Cell.str s1, c2, Cell.str s3]] [] = some r := lim_of ((laws_toMade_eq k s1 c2 s3).trans h)
noncomputable def pl_slices_Equal_File : List (Nat × Run) := []
noncomputable def G_slices_Equal_File : Ctx := ctx tyTab fiTab pl_slices_Equal_File
noncomputable def run_slices_Equal_File : Run := lim G_slices_Equal_File fid_slices_Equal_File
theorem ok_slices_Equal_File : FnOk Try.prog OkT fid_slices_Equal_File run_slices_Equal_File := lim_ok (l := pl_slices_Equal_File) Try_mix tyTab_ok fiTab_ok okT .nil fid_slices_Equal_File
noncomputable def slices_Equal_File_l0 (k m : Nat) : Nat → Cell → Cell → Int → Int → Option Res
  | 0, _, _, _, _ => none
  | n + 1, c6, c7, i8, i9 =>
    cond (decide (i9 < i8))
    ((idxA 2 (c6) i9).bind fun c10 =>
    (deref [] (c10)).bind fun p11 =>
    (cS p11.1 p11.2).bind fun s12 =>
    (cS p11.1 (p11.2 + 1)).bind fun s13 =>
    (idxA 2 (c7) i9).bind fun c14 =>
    (deref [] (c14)).bind fun p15 =>
    (cS p15.1 p15.2).bind fun s16 =>
    (cS p15.1 (p15.2 + 1)).bind fun s17 =>
    (eqCells [.str, .str] [Cell.str s12, Cell.str s13] [Cell.str s16, Cell.str s17]).bind fun b18 =>
    cond (!b18)
    (some ([.one (Cell.bool false)], []))
    (slices_Equal_File_l0 k m n (c6) (c7) i8 (IntKind.i64.wrap (i9 + 1))))
    (some ([.one (Cell.bool true)], []))
noncomputable def slices_Equal_File (k m : Nat) (c1 : Cell) (c2 : Cell) : Option Res :=
  (lenC c1).bind fun n3 =>
  (lenC c2).bind fun n4 =>
  cond ((n3 : Int) != (n4 : Int))
  (some ([.one (Cell.bool false)], []))
  ((lenC c1).bind fun n5 =>
  slices_Equal_File_l0 k m m (c1) (c2) (n5 : Int) 0)
noncomputable abbrev slices_Equal_File_l0_B (k m : Nat) : (Ex → Fr → Option Res) → Fr → Option Res := evC G_slices_Equal_File fi_slices_Equal_File (evF G_slices_Equal_File (k + 1)) m (sub [1, 1, 0, 1, 2, 3] fi_slices_Equal_File.code) none
noncomputable abbrev slices_Equal_File_l0_K (k m : Nat) : Ex → Fr → Option Res := blockK 0 (seqK (evC G_slices_Equal_File fi_slices_Equal_File (evF G_slices_Equal_File (k + 1)) m (sub [1, 1, 1] fi_slices_Equal_File.code) none) (retK G_slices_Equal_File fi_slices_Equal_File))
theorem slices_Equal_File_l0_eq (k m : Nat) : ∀ (n : Nat) (c6 : Cell) (c7 : Cell) (i8 : Int) (i9 : Int), loopK (some [0, 1, 12, 13]) (slices_Equal_File_l0_B k m) (slices_Equal_File_l0_K k m) n ⟨fT 26 0 [(0, .av (.one (c6))), (1, .av (.one (c7))), (12, .av (.one (Cell.int i8))), (13, .av (.one (Cell.int i9)))], fX 26 0 [], []⟩ = slices_Equal_File_l0 (k + 1) m n c6 c7 i8 i9 := by
  intro n
  induction n with
  | zero => intros; rfl
  | succ n ih =>
    intros
    simp only [slices_Equal_File_l0, ← ih]
    kernel_rfl
theorem slices_Equal_File_code (k m : Nat) (c1 : Cell) (c2 : Cell) : evC G_slices_Equal_File fi_slices_Equal_File (evF G_slices_Equal_File (k + 1)) m fi_slices_Equal_File.code none (retK G_slices_Equal_File fi_slices_Equal_File) (enter fi_slices_Equal_File [.one (c1), .one (c2)] []) = slices_Equal_File (k + 1) m c1 c2 := by
  simp only [slices_Equal_File, ← slices_Equal_File_l0_eq k m]
  kernel_rfl
theorem slices_Equal_File_eq (k : Nat) (c1 : Cell) (c2 : Cell) : evF G_slices_Equal_File (k + 2) fid_slices_Equal_File [.one (c1), .one (c2)] [] = slices_Equal_File (k + 1) (k + 1) c1 c2 :=
  Eq.trans (by kernel_rfl) (slices_Equal_File_code k (k + 1) c1 c2)
theorem run_slices_Equal_File_of {c1 : Cell} {c2 : Cell} {r : Res} (k : Nat) (h : slices_Equal_File (k + 1) (k + 1) c1 c2 = some r) : run_slices_Equal_File [.one (c1), .one (c2)] [] = some r := lim_of ((slices_Equal_File_eq k c1 c2).trans h)
noncomputable def pl_impl_SameMade : List (Nat × Run) := [(fid_slices_Equal_File, run_slices_Equal_File)]
noncomputable def G_impl_SameMade : Ctx := ctx tyTab fiTab pl_impl_SameMade
noncomputable def run_impl_SameMade : Run := lim G_impl_SameMade fid_impl_SameMade
theorem ok_impl_SameMade : FnOk Try.prog OkT fid_impl_SameMade run_impl_SameMade := lim_ok (l := pl_impl_SameMade) Try_mix tyTab_ok fiTab_ok okT (.cons ok_slices_Equal_File .nil) fid_impl_SameMade
noncomputable def impl_SameMade (k m : Nat) (s1 : ByteArray) (c2 : Cell) (s3 : ByteArray) (s4 : ByteArray) (c5 : Cell) (s6 : ByteArray) : Option Res :=
  cond (s1.toList == s4.toList)
  (cond (s3.toList == s6.toList)
  ((callS run_slices_Equal_File [.one (c2), .one (c5)] []).bind fun r7 =>
  cond (shapeOk rk_slices_Equal_File r7)
  ((cB (cellsAt r7 0) 0).bind fun b8 =>
  some ([.one (Cell.bool b8)], []))
  none)
  (some ([.one (Cell.bool false)], [])))
  (some ([.one (Cell.bool false)], []))
theorem impl_SameMade_code (k m : Nat) (s1 : ByteArray) (c2 : Cell) (s3 : ByteArray) (s4 : ByteArray) (c5 : Cell) (s6 : ByteArray) : evC G_impl_SameMade fi_impl_SameMade (evF G_impl_SameMade (k + 1)) m fi_impl_SameMade.code none (retK G_impl_SameMade fi_impl_SameMade) (enter fi_impl_SameMade [.agg [Cell.str s1, c2, Cell.str s3], .agg [Cell.str s4, c5, Cell.str s6]] []) = impl_SameMade (k + 1) m s1 c2 s3 s4 c5 s6 := by
  kernel_rfl
theorem impl_SameMade_eq (k : Nat) (s1 : ByteArray) (c2 : Cell) (s3 : ByteArray) (s4 : ByteArray) (c5 : Cell) (s6 : ByteArray) : evF G_impl_SameMade (k + 2) fid_impl_SameMade [.agg [Cell.str s1, c2, Cell.str s3], .agg [Cell.str s4, c5, Cell.str s6]] [] = impl_SameMade (k + 1) (k + 1) s1 c2 s3 s4 c5 s6 :=
  Eq.trans (by kernel_rfl) (impl_SameMade_code k (k + 1) s1 c2 s3 s4 c5 s6)
theorem run_impl_SameMade_of {s1 : ByteArray} {c2 : Cell} {s3 : ByteArray} {s4 : ByteArray} {c5 : Cell} {s6 : ByteArray} {r : Res} (k : Nat) (h : impl_SameMade (k + 1) (k + 1) s1 c2 s3 s4 c5 s6 = some r) : run_impl_SameMade [.agg [Cell.str s1, c2, Cell.str s3], .agg [Cell.str s4, c5, Cell.str s6]] [] = some r := lim_of ((impl_SameMade_eq k s1 c2 s3 s4 c5 s6).trans h)
noncomputable def pl_laws_eqFile : List (Nat × Run) := []
noncomputable def G_laws_eqFile : Ctx := ctx tyTab fiTab pl_laws_eqFile
noncomputable def run_laws_eqFile : Run := lim G_laws_eqFile fid_laws_eqFile
theorem ok_laws_eqFile : FnOk Try.prog OkT fid_laws_eqFile run_laws_eqFile := lim_ok (l := pl_laws_eqFile) Try_mix tyTab_ok fiTab_ok okT .nil fid_laws_eqFile
noncomputable def laws_eqFile (k m : Nat) (s1 : ByteArray) (s2 : ByteArray) (s3 : ByteArray) (s4 : ByteArray) : Option Res :=
  cond (!(s1.toList == s3.toList))
  (some ([.one (Cell.bool false)], []))
  (cond (!(s2.toList == s4.toList))
  (some ([.one (Cell.bool false)], []))
  (some ([.one (Cell.bool true)], [])))
theorem laws_eqFile_code (k m : Nat) (s1 : ByteArray) (s2 : ByteArray) (s3 : ByteArray) (s4 : ByteArray) : evC G_laws_eqFile fi_laws_eqFile (evF G_laws_eqFile (k + 1)) m fi_laws_eqFile.code none (retK G_laws_eqFile fi_laws_eqFile) (enter fi_laws_eqFile [.agg [Cell.str s1, Cell.str s2], .agg [Cell.str s3, Cell.str s4]] []) = laws_eqFile (k + 1) m s1 s2 s3 s4 := by
  kernel_rfl
theorem laws_eqFile_eq (k : Nat) (s1 : ByteArray) (s2 : ByteArray) (s3 : ByteArray) (s4 : ByteArray) : evF G_laws_eqFile (k + 2) fid_laws_eqFile [.agg [Cell.str s1, Cell.str s2], .agg [Cell.str s3, Cell.str s4]] [] = laws_eqFile (k + 1) (k + 1) s1 s2 s3 s4 :=
  Eq.trans (by kernel_rfl) (laws_eqFile_code k (k + 1) s1 s2 s3 s4)
theorem run_laws_eqFile_of {s1 : ByteArray} {s2 : ByteArray} {s3 : ByteArray} {s4 : ByteArray} {r : Res} (k : Nat) (h : laws_eqFile (k + 1) (k + 1) s1 s2 s3 s4 = some r) : run_laws_eqFile [.agg [Cell.str s1, Cell.str s2], .agg [Cell.str s3, Cell.str s4]] [] = some r := lim_of ((laws_eqFile_eq k s1 s2 s3 s4).trans h)
noncomputable def pl_laws_eqFileS : List (Nat × Run) := [(fid_laws_eqFile, run_laws_eqFile)]
noncomputable def G_laws_eqFileS : Ctx := ctx tyTab fiTab pl_laws_eqFileS
noncomputable def run_laws_eqFileS : Run := lim G_laws_eqFileS fid_laws_eqFileS
theorem ok_laws_eqFileS : FnOk Try.prog OkT fid_laws_eqFileS run_laws_eqFileS := lim_ok (l := pl_laws_eqFileS) Try_mix tyTab_ok fiTab_ok okT (.cons ok_laws_eqFile .nil) fid_laws_eqFileS
noncomputable def laws_eqFileS_l0 (k m : Nat) : Nat → Cell → Cell → Int → Option Res
  | 0, _, _, _ => none
  | n + 1, c5, c6, i7 =>
    (lenC c5).bind fun n8 =>
    cond (decide (i7 < (n8 : Int)))
    ((idxA 2 (c5) i7).bind fun c9 =>
    (deref [] (c9)).bind fun p10 =>
    (cS p10.1 p10.2).bind fun s11 =>
    (cS p10.1 (p10.2 + 1)).bind fun s12 =>
    (idxA 2 (c6) i7).bind fun c13 =>
    (deref [] (c13)).bind fun p14 =>
    (cS p14.1 p14.2).bind fun s15 =>
    (cS p14.1 (p14.2 + 1)).bind fun s16 =>
    (callS run_laws_eqFile [.agg [Cell.str s11, Cell.str s12], .agg [Cell.str s15, Cell.str s16]] []).bind fun r17 =>
    cond (shapeOk rk_laws_eqFile r17)
    ((cB (cellsAt r17 0) 0).bind fun b18 =>
    cond (!b18)
    (some ([.one (Cell.bool false)], []))
    (laws_eqFileS_l0 k m n (c5) (c6) (IntKind.i64.wrap (i7 + 1))))
    none)
    (some ([.one (Cell.bool true)], []))
noncomputable def laws_eqFileS (k m : Nat) (c1 : Cell) (c2 : Cell) : Option Res :=
  (lenC c1).bind fun n3 =>
  (lenC c2).bind fun n4 =>
  cond ((n3 : Int) != (n4 : Int))
  (some ([.one (Cell.bool false)], []))
  (laws_eqFileS_l0 k m m (c1) (c2) 0)
noncomputable abbrev laws_eqFileS_l0_B (k m : Nat) : (Ex → Fr → Option Res) → Fr → Option Res := evC G_laws_eqFileS fi_laws_eqFileS (evF G_laws_eqFileS (k + 1)) m (sub [1, 1, 0, 1, 2, 3] fi_laws_eqFileS.code) none
noncomputable abbrev laws_eqFileS_l0_K (k m : Nat) : Ex → Fr → Option Res := blockK 0 (seqK (evC G_laws_eqFileS fi_laws_eqFileS (evF G_laws_eqFileS (k + 1)) m (sub [1, 1, 1] fi_laws_eqFileS.code) none) (retK G_laws_eqFileS fi_laws_eqFileS))
theorem laws_eqFileS_l0_eq (k m : Nat) : ∀ (n : Nat) (c5 : Cell) (c6 : Cell) (i7 : Int), loopK (some [0, 1, 5]) (laws_eqFileS_l0_B k m) (laws_eqFileS_l0_K k m) n ⟨fT 27 0 [(0, .av (.one (c5))), (1, .av (.one (c6))), (5, .av (.one (Cell.int i7)))], fX 27 0 [], []⟩ = laws_eqFileS_l0 (k + 1) m n c5 c6 i7 := by
  intro n
  induction n with
  | zero => intros; rfl
  | succ n ih =>
    intros
    simp only [laws_eqFileS_l0, ← ih]
    kernel_rfl
theorem laws_eqFileS_code (k m : Nat) (c1 : Cell) (c2 : Cell) : evC G_laws_eqFileS fi_laws_eqFileS (evF G_laws_eqFileS (k + 1)) m fi_laws_eqFileS.code none (retK G_laws_eqFileS fi_laws_eqFileS) (enter fi_laws_eqFileS [.one (c1), .one (c2)] []) = laws_eqFileS (k + 1) m c1 c2 := by
  simp only [laws_eqFileS, ← laws_eqFileS_l0_eq k m]
  kernel_rfl
theorem laws_eqFileS_eq (k : Nat) (c1 : Cell) (c2 : Cell) : evF G_laws_eqFileS (k + 2) fid_laws_eqFileS [.one (c1), .one (c2)] [] = laws_eqFileS (k + 1) (k + 1) c1 c2 :=
  Eq.trans (by kernel_rfl) (laws_eqFileS_code k (k + 1) c1 c2)
theorem run_laws_eqFileS_of {c1 : Cell} {c2 : Cell} {r : Res} (k : Nat) (h : laws_eqFileS (k + 1) (k + 1) c1 c2 = some r) : run_laws_eqFileS [.one (c1), .one (c2)] [] = some r := lim_of ((laws_eqFileS_eq k c1 c2).trans h)
noncomputable def pl_laws_eqMade : List (Nat × Run) := [(fid_laws_eqFileS, run_laws_eqFileS)]
noncomputable def G_laws_eqMade : Ctx := ctx tyTab fiTab pl_laws_eqMade
noncomputable def run_laws_eqMade : Run := lim G_laws_eqMade fid_laws_eqMade
theorem ok_laws_eqMade : FnOk Try.prog OkT fid_laws_eqMade run_laws_eqMade := lim_ok (l := pl_laws_eqMade) Try_mix tyTab_ok fiTab_ok okT (.cons ok_laws_eqFileS .nil) fid_laws_eqMade
noncomputable def laws_eqMade (k m : Nat) (s1 : ByteArray) (c2 : Cell) (s3 : ByteArray) (s4 : ByteArray) (c5 : Cell) (s6 : ByteArray) : Option Res :=
  cond (!(s1.toList == s4.toList))
  (some ([.one (Cell.bool false)], []))
  ((callS run_laws_eqFileS [.one (c2), .one (c5)] []).bind fun r7 =>
  cond (shapeOk rk_laws_eqFileS r7)
  ((cB (cellsAt r7 0) 0).bind fun b8 =>
  cond (!b8)
  (some ([.one (Cell.bool false)], []))
  (cond (!(s3.toList == s6.toList))
  (some ([.one (Cell.bool false)], []))
  (some ([.one (Cell.bool true)], []))))
  none)
theorem laws_eqMade_code (k m : Nat) (s1 : ByteArray) (c2 : Cell) (s3 : ByteArray) (s4 : ByteArray) (c5 : Cell) (s6 : ByteArray) : evC G_laws_eqMade fi_laws_eqMade (evF G_laws_eqMade (k + 1)) m fi_laws_eqMade.code none (retK G_laws_eqMade fi_laws_eqMade) (enter fi_laws_eqMade [.agg [Cell.str s1, c2, Cell.str s3], .agg [Cell.str s4, c5, Cell.str s6]] []) = laws_eqMade (k + 1) m s1 c2 s3 s4 c5 s6 := by
  kernel_rfl
theorem laws_eqMade_eq (k : Nat) (s1 : ByteArray) (c2 : Cell) (s3 : ByteArray) (s4 : ByteArray) (c5 : Cell) (s6 : ByteArray) : evF G_laws_eqMade (k + 2) fid_laws_eqMade [.agg [Cell.str s1, c2, Cell.str s3], .agg [Cell.str s4, c5, Cell.str s6]] [] = laws_eqMade (k + 1) (k + 1) s1 c2 s3 s4 c5 s6 :=
  Eq.trans (by kernel_rfl) (laws_eqMade_code k (k + 1) s1 c2 s3 s4 c5 s6)
theorem run_laws_eqMade_of {s1 : ByteArray} {c2 : Cell} {s3 : ByteArray} {s4 : ByteArray} {c5 : Cell} {s6 : ByteArray} {r : Res} (k : Nat) (h : laws_eqMade (k + 1) (k + 1) s1 c2 s3 s4 c5 s6 = some r) : run_laws_eqMade [.agg [Cell.str s1, c2, Cell.str s3], .agg [Cell.str s4, c5, Cell.str s6]] [] = some r := lim_of ((laws_eqMade_eq k s1 c2 s3 s4 c5 s6).trans h)
noncomputable def pl_laws_FnExactSameMade : List (Nat × Run) := [(fid_laws_szMade, run_laws_szMade), (fid_spec_SameMade, run_spec_SameMade), (fid_laws_toMade, run_laws_toMade), (fid_impl_SameMade, run_impl_SameMade), (fid_laws_eqMade, run_laws_eqMade)]
noncomputable def G_laws_FnExactSameMade : Ctx := ctx tyTab fiTab pl_laws_FnExactSameMade
noncomputable def run_laws_FnExactSameMade : Run := lim G_laws_FnExactSameMade fid_laws_FnExactSameMade
theorem ok_laws_FnExactSameMade : FnOk Try.prog OkT fid_laws_FnExactSameMade run_laws_FnExactSameMade := lim_ok (l := pl_laws_FnExactSameMade) Try_mix tyTab_ok fiTab_ok okT (.cons ok_laws_szMade (.cons ok_spec_SameMade (.cons ok_laws_toMade (.cons ok_impl_SameMade (.cons ok_laws_eqMade .nil))))) fid_laws_FnExactSameMade
noncomputable def laws_FnExactSameMade (k m : Nat) (s1 : ByteArray) (c2 : Cell) (s3 : ByteArray) (s4 : ByteArray) (c5 : Cell) (s6 : ByteArray) : Option Res :=
  (callS run_laws_szMade [.agg [Cell.str s1, c2, Cell.str s3], .one (Cell.int 1048576)] []).bind fun r7 =>
  cond (shapeOk rk_laws_szMade r7)
  ((cI .i64 (cellsAt r7 0) 0).bind fun i8 =>
  cond (decide (i8 < 0))
  (some ([.one (Cell.bool true)], []))
  ((callS run_laws_szMade [.agg [Cell.str s4, c5, Cell.str s6], .one (Cell.int i8)] []).bind fun r9 =>
  cond (shapeOk rk_laws_szMade r9)
  ((cI .i64 (cellsAt r9 0) 0).bind fun i10 =>
  cond (decide (i10 < 0))
  (some ([.one (Cell.bool true)], []))
  ((callL run_laws_toMade [.agg [Cell.str s1, c2, Cell.str s3]] []).bind fun r11 =>
  cond (shapeOk rk_laws_toMade r11.1)
  ((cS (cellsAt r11.1 0) 0).bind fun s12 =>
  (cC (cellsAt r11.1 0) 1).bind fun c13 =>
  (cS (cellsAt r11.1 0) 2).bind fun s14 =>
  emptyK r11.2
  ((callL run_laws_toMade [.agg [Cell.str s4, c5, Cell.str s6]] []).bind fun r15 =>
  cond (shapeOk rk_laws_toMade r15.1)
  ((cS (cellsAt r15.1 0) 0).bind fun s16 =>
  (cC (cellsAt r15.1 0) 1).bind fun c17 =>
  (cS (cellsAt r15.1 0) 2).bind fun s18 =>
  (callS run_spec_SameMade [.agg [Cell.str s12, c13, Cell.str s14], .agg [Cell.str s16, c17, Cell.str s18]] r15.2).bind fun r19 =>
  cond (shapeOk rk_spec_SameMade r19)
  ((cB (cellsAt r19 0) 0).bind fun b20 =>
  (callL run_laws_toMade [.agg [Cell.str s1, c2, Cell.str s3]] r15.2).bind fun r21 =>
  cond (shapeOk rk_laws_toMade r21.1)
  ((cS (cellsAt r21.1 0) 0).bind fun s22 =>
  (cC (cellsAt r21.1 0) 1).bind fun c23 =>
  (cS (cellsAt r21.1 0) 2).bind fun s24 =>
  (callL run_laws_toMade [.agg [Cell.str s4, c5, Cell.str s6]] r21.2).bind fun r25 =>
  cond (shapeOk rk_laws_toMade r25.1)
  ((cS (cellsAt r25.1 0) 0).bind fun s26 =>
  (cC (cellsAt r25.1 0) 1).bind fun c27 =>
  (cS (cellsAt r25.1 0) 2).bind fun s28 =>
  (callS run_impl_SameMade [.agg [Cell.str s22, c23, Cell.str s24], .agg [Cell.str s26, c27, Cell.str s28]] r25.2).bind fun r29 =>
  cond (shapeOk rk_impl_SameMade r29)
  ((cB (cellsAt r29 0) 0).bind fun b30 =>
  cond (!(b30 == b20))
  (some ([.one (Cell.bool false)], r25.2))
  ((callL run_laws_toMade [.agg [Cell.str s1, c2, Cell.str s3]] []).bind fun r31 =>
  cond (shapeOk rk_laws_toMade r31.1)
  ((cS (cellsAt r31.1 0) 0).bind fun s32 =>
  (cC (cellsAt r31.1 0) 1).bind fun c33 =>
  (cS (cellsAt r31.1 0) 2).bind fun s34 =>
  emptyK r31.2
  ((callS run_laws_eqMade [.agg [Cell.str s22, c23, Cell.str s24], .agg [Cell.str s32, c33, Cell.str s34]] r25.2).bind fun r35 =>
  cond (shapeOk rk_laws_eqMade r35)
  ((cB (cellsAt r35 0) 0).bind fun b36 =>
  cond (!b36)
  (some ([.one (Cell.bool false)], r25.2))
  ((callL run_laws_toMade [.agg [Cell.str s4, c5, Cell.str s6]] []).bind fun r37 =>
  cond (shapeOk rk_laws_toMade r37.1)
  ((cS (cellsAt r37.1 0) 0).bind fun s38 =>
  (cC (cellsAt r37.1 0) 1).bind fun c39 =>
  (cS (cellsAt r37.1 0) 2).bind fun s40 =>
  emptyK r37.2
  ((callS run_laws_eqMade [.agg [Cell.str s26, c27, Cell.str s28], .agg [Cell.str s38, c39, Cell.str s40]] r25.2).bind fun r41 =>
  cond (shapeOk rk_laws_eqMade r41)
  ((cB (cellsAt r41 0) 0).bind fun b42 =>
  cond (!b42)
  (some ([.one (Cell.bool false)], r25.2))
  (some ([.one (Cell.bool true)], r25.2)))
  none))
  none))
  none))
  none))
  none)
  none)
  none)
  none)
  none))
  none))
  none))
  none
theorem laws_FnExactSameMade_code (k m : Nat) (s1 : ByteArray) (c2 : Cell) (s3 : ByteArray) (s4 : ByteArray) (c5 : Cell) (s6 : ByteArray) : evC G_laws_FnExactSameMade fi_laws_FnExactSameMade (evF G_laws_FnExactSameMade (k + 1)) m fi_laws_FnExactSameMade.code none (retK G_laws_FnExactSameMade fi_laws_FnExactSameMade) (enter fi_laws_FnExactSameMade [.agg [Cell.str s1, c2, Cell.str s3], .agg [Cell.str s4, c5, Cell.str s6]] []) = laws_FnExactSameMade (k + 1) m s1 c2 s3 s4 c5 s6 := by
  kernel_rfl
theorem laws_FnExactSameMade_eq (k : Nat) (s1 : ByteArray) (c2 : Cell) (s3 : ByteArray) (s4 : ByteArray) (c5 : Cell) (s6 : ByteArray) : evF G_laws_FnExactSameMade (k + 2) fid_laws_FnExactSameMade [.agg [Cell.str s1, c2, Cell.str s3], .agg [Cell.str s4, c5, Cell.str s6]] [] = laws_FnExactSameMade (k + 1) (k + 1) s1 c2 s3 s4 c5 s6 :=
  Eq.trans (by kernel_rfl) (laws_FnExactSameMade_code k (k + 1) s1 c2 s3 s4 c5 s6)
theorem run_laws_FnExactSameMade_of {s1 : ByteArray} {c2 : Cell} {s3 : ByteArray} {s4 : ByteArray} {c5 : Cell} {s6 : ByteArray} {r : Res} (k : Nat) (h : laws_FnExactSameMade (k + 1) (k + 1) s1 c2 s3 s4 c5 s6 = some r) : run_laws_FnExactSameMade [.agg [Cell.str s1, c2, Cell.str s3], .agg [Cell.str s4, c5, Cell.str s6]] [] = some r := lim_of ((laws_FnExactSameMade_eq k s1 c2 s3 s4 c5 s6).trans h)
end Go.Ev
