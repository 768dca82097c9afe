/- What the evaluator says of the functions, each as a Lean function over cells. Printed by a program of this claim. Conditions: none. -/
import Derived.Test.YtiocamjonchabaaDoorEvPr
import Derived.KernelRfl
namespace Go.Ev
open Go Go.Proofs
set_option maxRecDepth 100000
set_option linter.unusedVariables false
set_option linter.unusedSimpArgs false
noncomputable def pl_laws_eqByteS : List (Nat × Run) := []
noncomputable def G_laws_eqByteS : Ctx := ctx tyTab fiTab pl_laws_eqByteS
noncomputable def run_laws_eqByteS : Run := lim G_laws_eqByteS fid_laws_eqByteS
theorem ok_laws_eqByteS : FnOk Tryd.prog OkT fid_laws_eqByteS run_laws_eqByteS := lim_ok (l := pl_laws_eqByteS) Tryd_mix tyTab_ok fiTab_ok okT .nil fid_laws_eqByteS
noncomputable def laws_eqByteS_l0 (k m : Nat) : Nat → Cell → Cell → Int → Option Res
  | 0, _, _, _ => none
  | n + 1, c5, c6, i7 =>
    (lenC c5).bind fun n8 =>
    cond (decide (i7 < (n8 : Int)))
    ((idxA 1 (c5) i7).bind fun c9 =>
    (deref [] (c9)).bind fun p10 =>
    (cI .u8 p10.1 p10.2).bind fun i11 =>
    (idxA 1 (c6) i7).bind fun c12 =>
    (deref [] (c12)).bind fun p13 =>
    (cI .u8 p13.1 p13.2).bind fun i14 =>
    cond (i11 != i14)
    (some ([.one (Cell.bool false)], []))
    (laws_eqByteS_l0 k m n (c5) (c6) (IntKind.i64.wrap (i7 + 1))))
    (some ([.one (Cell.bool true)], []))
noncomputable def laws_eqByteS (k m : Nat) (c1 : Cell) (c2 : Cell) : Option Res :=
  (lenC c1).bind fun n3 =>
  (lenC c2).bind fun n4 =>
  cond ((n3 : Int) != (n4 : Int))
  (some ([.one (Cell.bool false)], []))
  (laws_eqByteS_l0 k m m (c1) (c2) 0)
noncomputable abbrev laws_eqByteS_l0_B (k m : Nat) : (Ex → Fr → Option Res) → Fr → Option Res := evC G_laws_eqByteS fi_laws_eqByteS (evF G_laws_eqByteS (k + 1)) m (sub [1, 1, 0, 1, 2, 3] fi_laws_eqByteS.code) none
noncomputable abbrev laws_eqByteS_l0_K (k m : Nat) : Ex → Fr → Option Res := blockK 0 (seqK (evC G_laws_eqByteS fi_laws_eqByteS (evF G_laws_eqByteS (k + 1)) m (sub [1, 1, 1] fi_laws_eqByteS.code) none) (retK G_laws_eqByteS fi_laws_eqByteS))
theorem laws_eqByteS_l0_eq (k m : Nat) : ∀ (n : Nat) (c5 : Cell) (c6 : Cell) (i7 : Int), loopK (some [0, 1, 5]) (laws_eqByteS_l0_B k m) (laws_eqByteS_l0_K k m) n ⟨fT 26 0 [(0, .av (.one (c5))), (1, .av (.one (c6))), (5, .av (.one (Cell.int i7)))], fX 26 0 [], []⟩ = laws_eqByteS_l0 (k + 1) m n c5 c6 i7 := by
  intro n
  induction n with
  | zero => intros; rfl
  | succ n ih =>
    intros
    simp only [laws_eqByteS_l0, ← ih]
    kernel_rfl
theorem laws_eqByteS_code (k m : Nat) (c1 : Cell) (c2 : Cell) : evC G_laws_eqByteS fi_laws_eqByteS (evF G_laws_eqByteS (k + 1)) m fi_laws_eqByteS.code none (retK G_laws_eqByteS fi_laws_eqByteS) (enter fi_laws_eqByteS [.one (c1), .one (c2)] []) = laws_eqByteS (k + 1) m c1 c2 := by
  simp only [laws_eqByteS, ← laws_eqByteS_l0_eq k m]
  kernel_rfl
theorem laws_eqByteS_eq (k : Nat) (c1 : Cell) (c2 : Cell) : evF G_laws_eqByteS (k + 2) fid_laws_eqByteS [.one (c1), .one (c2)] [] = laws_eqByteS (k + 1) (k + 1) c1 c2 :=
  Eq.trans (by kernel_rfl) (laws_eqByteS_code k (k + 1) c1 c2)
theorem run_laws_eqByteS_of {c1 : Cell} {c2 : Cell} {r : Res} (k : Nat) (h : laws_eqByteS (k + 1) (k + 1) c1 c2 = some r) : run_laws_eqByteS [.one (c1), .one (c2)] [] = some r := lim_of ((laws_eqByteS_eq k c1 c2).trans h)
noncomputable def pl_laws_eqFile : List (Nat × Run) := []
noncomputable def G_laws_eqFile : Ctx := ctx tyTab fiTab pl_laws_eqFile
noncomputable def run_laws_eqFile : Run := lim G_laws_eqFile fid_laws_eqFile
theorem ok_laws_eqFile : FnOk Tryd.prog OkT fid_laws_eqFile run_laws_eqFile := lim_ok (l := pl_laws_eqFile) Tryd_mix tyTab_ok fiTab_ok okT .nil fid_laws_eqFile
noncomputable def laws_eqFile (k m : Nat) (s1 : ByteArray) (s2 : ByteArray) (s3 : ByteArray) (s4 : ByteArray) : Option Res :=
  cond (!(s1.toList == s3.toList))
  (some ([.one (Cell.bool false)], []))
  (cond (!(s2.toList == s4.toList))
  (some ([.one (Cell.bool false)], []))
  (some ([.one (Cell.bool true)], [])))
theorem laws_eqFile_code (k m : Nat) (s1 : ByteArray) (s2 : ByteArray) (s3 : ByteArray) (s4 : ByteArray) : evC G_laws_eqFile fi_laws_eqFile (evF G_laws_eqFile (k + 1)) m fi_laws_eqFile.code none (retK G_laws_eqFile fi_laws_eqFile) (enter fi_laws_eqFile [.agg [Cell.str s1, Cell.str s2], .agg [Cell.str s3, Cell.str s4]] []) = laws_eqFile (k + 1) m s1 s2 s3 s4 := by
  kernel_rfl
theorem laws_eqFile_eq (k : Nat) (s1 : ByteArray) (s2 : ByteArray) (s3 : ByteArray) (s4 : ByteArray) : evF G_laws_eqFile (k + 2) fid_laws_eqFile [.agg [Cell.str s1, Cell.str s2], .agg [Cell.str s3, Cell.str s4]] [] = laws_eqFile (k + 1) (k + 1) s1 s2 s3 s4 :=
  Eq.trans (by kernel_rfl) (laws_eqFile_code k (k + 1) s1 s2 s3 s4)
theorem run_laws_eqFile_of {s1 : ByteArray} {s2 : ByteArray} {s3 : ByteArray} {s4 : ByteArray} {r : Res} (k : Nat) (h : laws_eqFile (k + 1) (k + 1) s1 s2 s3 s4 = some r) : run_laws_eqFile [.agg [Cell.str s1, Cell.str s2], .agg [Cell.str s3, Cell.str s4]] [] = some r := lim_of ((laws_eqFile_eq k s1 s2 s3 s4).trans h)
noncomputable def pl_laws_eqFileS : List (Nat × Run) := [(fid_laws_eqFile, run_laws_eqFile)]
noncomputable def G_laws_eqFileS : Ctx := ctx tyTab fiTab pl_laws_eqFileS
noncomputable def run_laws_eqFileS : Run := lim G_laws_eqFileS fid_laws_eqFileS
theorem ok_laws_eqFileS : FnOk Tryd.prog OkT fid_laws_eqFileS run_laws_eqFileS := lim_ok (l := pl_laws_eqFileS) Tryd_mix tyTab_ok fiTab_ok okT (.cons ok_laws_eqFile .nil) fid_laws_eqFileS
noncomputable def laws_eqFileS_l0 (k m : Nat) : Nat → Cell → Cell → Int → Option Res
  | 0, _, _, _ => none
  | n + 1, c5, c6, i7 =>
    (lenC c5).bind fun n8 =>
    cond (decide (i7 < (n8 : Int)))
    ((idxA 2 (c5) i7).bind fun c9 =>
    (deref [] (c9)).bind fun p10 =>
    (cS p10.1 p10.2).bind fun s11 =>
    (cS p10.1 (p10.2 + 1)).bind fun s12 =>
    (idxA 2 (c6) i7).bind fun c13 =>
    (deref [] (c13)).bind fun p14 =>
    (cS p14.1 p14.2).bind fun s15 =>
    (cS p14.1 (p14.2 + 1)).bind fun s16 =>
    (callS run_laws_eqFile [.agg [Cell.str s11, Cell.str s12], .agg [Cell.str s15, Cell.str s16]] []).bind fun r17 =>
    cond (shapeOk rk_laws_eqFile r17)
    ((cB (cellsAt r17 0) 0).bind fun b18 =>
    cond (!b18)
    (some ([.one (Cell.bool false)], []))
    (laws_eqFileS_l0 k m n (c5) (c6) (IntKind.i64.wrap (i7 + 1))))
    none)
    (some ([.one (Cell.bool true)], []))
noncomputable def laws_eqFileS (k m : Nat) (c1 : Cell) (c2 : Cell) : Option Res :=
  (lenC c1).bind fun n3 =>
  (lenC c2).bind fun n4 =>
  cond ((n3 : Int) != (n4 : Int))
  (some ([.one (Cell.bool false)], []))
  (laws_eqFileS_l0 k m m (c1) (c2) 0)
noncomputable abbrev laws_eqFileS_l0_B (k m : Nat) : (Ex → Fr → Option Res) → Fr → Option Res := evC G_laws_eqFileS fi_laws_eqFileS (evF G_laws_eqFileS (k + 1)) m (sub [1, 1, 0, 1, 2, 3] fi_laws_eqFileS.code) none
noncomputable abbrev laws_eqFileS_l0_K (k m : Nat) : Ex → Fr → Option Res := blockK 0 (seqK (evC G_laws_eqFileS fi_laws_eqFileS (evF G_laws_eqFileS (k + 1)) m (sub [1, 1, 1] fi_laws_eqFileS.code) none) (retK G_laws_eqFileS fi_laws_eqFileS))
theorem laws_eqFileS_l0_eq (k m : Nat) : ∀ (n : Nat) (c5 : Cell) (c6 : Cell) (i7 : Int), loopK (some [0, 1, 5]) (laws_eqFileS_l0_B k m) (laws_eqFileS_l0_K k m) n ⟨fT 27 0 [(0, .av (.one (c5))), (1, .av (.one (c6))), (5, .av (.one (Cell.int i7)))], fX 27 0 [], []⟩ = laws_eqFileS_l0 (k + 1) m n c5 c6 i7 := by
  intro n
  induction n with
  | zero => intros; rfl
  | succ n ih =>
    intros
    simp only [laws_eqFileS_l0, ← ih]
    kernel_rfl
theorem laws_eqFileS_code (k m : Nat) (c1 : Cell) (c2 : Cell) : evC G_laws_eqFileS fi_laws_eqFileS (evF G_laws_eqFileS (k + 1)) m fi_laws_eqFileS.code none (retK G_laws_eqFileS fi_laws_eqFileS) (enter fi_laws_eqFileS [.one (c1), .one (c2)] []) = laws_eqFileS (k + 1) m c1 c2 := by
  simp only [laws_eqFileS, ← laws_eqFileS_l0_eq k m]
  kernel_rfl
theorem laws_eqFileS_eq (k : Nat) (c1 : Cell) (c2 : Cell) : evF G_laws_eqFileS (k + 2) fid_laws_eqFileS [.one (c1), .one (c2)] [] = laws_eqFileS (k + 1) (k + 1) c1 c2 :=
  Eq.trans (by kernel_rfl) (laws_eqFileS_code k (k + 1) c1 c2)
theorem run_laws_eqFileS_of {c1 : Cell} {c2 : Cell} {r : Res} (k : Nat) (h : laws_eqFileS (k + 1) (k + 1) c1 c2 = some r) : run_laws_eqFileS [.one (c1), .one (c2)] [] = some r := lim_of ((laws_eqFileS_eq k c1 c2).trans h)
noncomputable def pl_laws_eqMade : List (Nat × Run) := [(fid_laws_eqFileS, run_laws_eqFileS)]
noncomputable def G_laws_eqMade : Ctx := ctx tyTab fiTab pl_laws_eqMade
noncomputable def run_laws_eqMade : Run := lim G_laws_eqMade fid_laws_eqMade
theorem ok_laws_eqMade : FnOk Tryd.prog OkT fid_laws_eqMade run_laws_eqMade := lim_ok (l := pl_laws_eqMade) Tryd_mix tyTab_ok fiTab_ok okT (.cons ok_laws_eqFileS .nil) fid_laws_eqMade
noncomputable def laws_eqMade (k m : Nat) (s1 : ByteArray) (c2 : Cell) (s3 : ByteArray) (s4 : ByteArray) (c5 : Cell) (s6 : ByteArray) : Option Res :=
  cond (!(s1.toList == s4.toList))
  (some ([.one (Cell.bool false)], []))
  ((callS run_laws_eqFileS [.one (c2), .one (c5)] []).bind fun r7 =>
  cond (shapeOk rk_laws_eqFileS r7)
  ((cB (cellsAt r7 0) 0).bind fun b8 =>
  cond (!b8)
  (some ([.one (Cell.bool false)], []))
  (cond (!(s3.toList == s6.toList))
  (some ([.one (Cell.bool false)], []))
  (some ([.one (Cell.bool true)], []))))
  none)
theorem laws_eqMade_code (k m : Nat) (s1 : ByteArray) (c2 : Cell) (s3 : ByteArray) (s4 : ByteArray) (c5 : Cell) (s6 : ByteArray) : evC G_laws_eqMade fi_laws_eqMade (evF G_laws_eqMade (k + 1)) m fi_laws_eqMade.code none (retK G_laws_eqMade fi_laws_eqMade) (enter fi_laws_eqMade [.agg [Cell.str s1, c2, Cell.str s3], .agg [Cell.str s4, c5, Cell.str s6]] []) = laws_eqMade (k + 1) m s1 c2 s3 s4 c5 s6 := by
  kernel_rfl
theorem laws_eqMade_eq (k : Nat) (s1 : ByteArray) (c2 : Cell) (s3 : ByteArray) (s4 : ByteArray) (c5 : Cell) (s6 : ByteArray) : evF G_laws_eqMade (k + 2) fid_laws_eqMade [.agg [Cell.str s1, c2, Cell.str s3], .agg [Cell.str s4, c5, Cell.str s6]] [] = laws_eqMade (k + 1) (k + 1) s1 c2 s3 s4 c5 s6 :=
  Eq.trans (by kernel_rfl) (laws_eqMade_code k (k + 1) s1 c2 s3 s4 c5 s6)
theorem run_laws_eqMade_of {s1 : ByteArray} {c2 : Cell} {s3 : ByteArray} {s4 : ByteArray} {c5 : Cell} {s6 : ByteArray} {r : Res} (k : Nat) (h : laws_eqMade (k + 1) (k + 1) s1 c2 s3 s4 c5 s6 = some r) : run_laws_eqMade [.agg [Cell.str s1, c2, Cell.str s3], .agg [Cell.str s4, c5, Cell.str s6]] [] = some r := lim_of ((laws_eqMade_eq k s1 c2 s3 s4 c5 s6).trans h)
noncomputable def pl_laws_markText : List (Nat × Run) := []
noncomputable def G_laws_markText : Ctx := ctx tyTab fiTab pl_laws_markText
noncomputable def run_laws_markText : Run := lim G_laws_markText fid_laws_markText
theorem ok_laws_markText : FnOk Tryd.prog OkT fid_laws_markText run_laws_markText := lim_ok (l := pl_laws_markText) Tryd_mix tyTab_ok fiTab_ok okT .nil fid_laws_markText
noncomputable def laws_markText_l0 (k m : Nat) : Nat → Int → ByteArray → Option Res
  | 0, _, _ => none
  | n + 1, i2, s3 =>
    cond (decide (i2 > 0))
    ((bytesOf [] (.lst true 1 [[.sc (.int .u8 (IntKind.u8.wrap (IntKind.i64.wrap (48 + (i2.tmod 10)))))]])).bind fun s4 =>
    (catS s4 s3).bind fun s5 =>
    laws_markText_l0 k m n (IntKind.i64.wrap (i2.tdiv 10)) s5)
    ((catS (bs [109]) s3).bind fun s6 =>
    some ([.one (Cell.str s6)], []))
noncomputable def laws_markText (k m : Nat) (i1 : Int) : Option Res :=
  cond (decide (i1 ≤ 0))
  (some ([.one (Cell.str (bs [109, 48]))], []))
  (laws_markText_l0 k m m i1 (bs []))
noncomputable abbrev laws_markText_l0_B (k m : Nat) : (Ex → Fr → Option Res) → Fr → Option Res := evC G_laws_markText fi_laws_markText (evF G_laws_markText (k + 1)) m (sub [1, 1, 1, 0, 2, 3] fi_laws_markText.code) none
noncomputable abbrev laws_markText_l0_K (k m : Nat) : Ex → Fr → Option Res := blockK 0 (seqK (evC G_laws_markText fi_laws_markText (evF G_laws_markText (k + 1)) m (sub [1, 1, 1, 1] fi_laws_markText.code) none) (retK G_laws_markText fi_laws_markText))
theorem laws_markText_l0_eq (k m : Nat) : ∀ (n : Nat) (i2 : Int) (s3 : ByteArray), loopK (some [0, 3]) (laws_markText_l0_B k m) (laws_markText_l0_K k m) n ⟨fT 20 0 [(0, .av (.one (Cell.int i2))), (3, .av (.one (Cell.str s3)))], fX 20 0 [], []⟩ = laws_markText_l0 (k + 1) m n i2 s3 := by
  intro n
  induction n with
  | zero => intros; rfl
  | succ n ih =>
    intros
    simp only [laws_markText_l0, ← ih]
    kernel_rfl
theorem laws_markText_code (k m : Nat) (i1 : Int) : evC G_laws_markText fi_laws_markText (evF G_laws_markText (k + 1)) m fi_laws_markText.code none (retK G_laws_markText fi_laws_markText) (enter fi_laws_markText [.one (Cell.int i1)] []) = laws_markText (k + 1) m i1 := by
  simp only [laws_markText, ← laws_markText_l0_eq k m]
  kernel_rfl
theorem laws_markText_eq (k : Nat) (i1 : Int) : evF G_laws_markText (k + 2) fid_laws_markText [.one (Cell.int i1)] [] = laws_markText (k + 1) (k + 1) i1 :=
  Eq.trans (by kernel_rfl) (laws_markText_code k (k + 1) i1)
theorem run_laws_markText_of {i1 : Int} {r : Res} (k : Nat) (h : laws_markText (k + 1) (k + 1) i1 = some r) : run_laws_markText [.one (Cell.int i1)] [] = some r := lim_of ((laws_markText_eq k i1).trans h)
noncomputable def pl_laws_markFileS : List (Nat × Run) := [(fid_laws_markText, run_laws_markText)]
noncomputable def G_laws_markFileS : Ctx := ctx tyTab fiTab pl_laws_markFileS
noncomputable def run_laws_markFileS : Run := lim G_laws_markFileS fid_laws_markFileS
theorem ok_laws_markFileS : FnOk Tryd.prog OkT fid_laws_markFileS run_laws_markFileS := lim_ok (l := pl_laws_markFileS) Tryd_mix tyTab_ok fiTab_ok okT (.cons ok_laws_markText .nil) fid_laws_markFileS
noncomputable def laws_markFileS_l0 (k m : Nat) : Nat → Cell → Int → Int → List Entry → Option Res
  | 0, _, _, _, _ => none
  | n + 1, c3, i4, i5, H6 =>
    (lenC c3).bind fun n7 =>
    cond (decide (i5 < (n7 : Int)))
    ((callS run_laws_markText [.one (Cell.int i4)] H6).bind fun r8 =>
    cond (shapeOk rk_laws_markText r8)
    ((cS (cellsAt r8 0) 0).bind fun s9 =>
    (idxA 2 (c3) i5).bind fun c10 =>
    (fldA c10 0).bind fun c11 =>
    (hStore H6 (c11) [Cell.str s9]).bind fun h12 =>
    (callS run_laws_markText [.one (Cell.int (IntKind.i64.wrap (i4 + 1)))] h12).bind fun r13 =>
    cond (shapeOk rk_laws_markText r13)
    ((cS (cellsAt r13 0) 0).bind fun s14 =>
    (idxA 2 (c3) i5).bind fun c15 =>
    (fldA c15 1).bind fun c16 =>
    (hStore h12 (c16) [Cell.str s14]).bind fun h17 =>
    laws_markFileS_l0 k m n (c3) (IntKind.i64.wrap ((IntKind.i64.wrap (i4 + 1)) + 1)) (IntKind.i64.wrap (i5 + 1)) h17)
    none)
    none)
    (some ([.one (Cell.int i4)], H6))
noncomputable def laws_markFileS (k m : Nat) (c1 : Cell) (i2 : Int) (H : List Entry) : Option Res :=
  laws_markFileS_l0 k m m (c1) i2 0 H
noncomputable abbrev laws_markFileS_l0_B (k m : Nat) : (Ex → Fr → Option Res) → Fr → Option Res := evC G_laws_markFileS fi_laws_markFileS (evF G_laws_markFileS (k + 1)) m (sub [1, 0, 1, 2, 3] fi_laws_markFileS.code) none
noncomputable abbrev laws_markFileS_l0_K (k m : Nat) : Ex → Fr → Option Res := blockK 0 (seqK (evC G_laws_markFileS fi_laws_markFileS (evF G_laws_markFileS (k + 1)) m (sub [1, 1] fi_laws_markFileS.code) none) (retK G_laws_markFileS fi_laws_markFileS))
theorem laws_markFileS_l0_eq (k m : Nat) : ∀ (n : Nat) (c3 : Cell) (i4 : Int) (i5 : Int) (H6 : List Entry), loopK (some [0, 1, 5]) (laws_markFileS_l0_B k m) (laws_markFileS_l0_K k m) n ⟨fT 29 0 [(0, .av (.one (c3))), (1, .av (.one (Cell.int i4))), (5, .av (.one (Cell.int i5)))], fX 29 0 [], H6⟩ = laws_markFileS_l0 (k + 1) m n c3 i4 i5 H6 := by
  intro n
  induction n with
  | zero => intros; rfl
  | succ n ih =>
    intros
    simp only [laws_markFileS_l0, ← ih]
    kernel_rfl
theorem laws_markFileS_code (k m : Nat) (c1 : Cell) (i2 : Int) (H : List Entry) : evC G_laws_markFileS fi_laws_markFileS (evF G_laws_markFileS (k + 1)) m fi_laws_markFileS.code none (retK G_laws_markFileS fi_laws_markFileS) (enter fi_laws_markFileS [.one (c1), .one (Cell.int i2)] H) = laws_markFileS (k + 1) m c1 i2 H := by
  simp only [laws_markFileS, ← laws_markFileS_l0_eq k m]
  kernel_rfl
theorem laws_markFileS_eq (k : Nat) (c1 : Cell) (i2 : Int) (H : List Entry) : evF G_laws_markFileS (k + 2) fid_laws_markFileS [.one (c1), .one (Cell.int i2)] H = laws_markFileS (k + 1) (k + 1) c1 i2 H :=
  Eq.trans (by kernel_rfl) (laws_markFileS_code k (k + 1) c1 i2 H)
theorem run_laws_markFileS_of {c1 : Cell} {i2 : Int} {H : List Entry} {r : Res} (k : Nat) (h : laws_markFileS (k + 1) (k + 1) c1 i2 H = some r) : run_laws_markFileS [.one (c1), .one (Cell.int i2)] H = some r := lim_of ((laws_markFileS_eq k c1 i2 H).trans h)
noncomputable def pl_laws_markMade : List (Nat × Run) := [(fid_laws_markFileS, run_laws_markFileS)]
noncomputable def G_laws_markMade : Ctx := ctx tyTab fiTab pl_laws_markMade
noncomputable def run_laws_markMade : Run := lim G_laws_markMade fid_laws_markMade
theorem ok_laws_markMade : FnOk Tryd.prog OkT fid_laws_markMade run_laws_markMade := lim_ok (l := pl_laws_markMade) Tryd_mix tyTab_ok fiTab_ok okT (.cons ok_laws_markFileS .nil) fid_laws_markMade
noncomputable def laws_markMade (k m : Nat) (s1 : ByteArray) (c2 : Cell) (s3 : ByteArray) (i4 : Int) (H : List Entry) : Option Res :=
  (run_laws_markFileS [.one (c2), .one (Cell.int i4)] H).bind fun r5 =>
  cond (shapeOk rk_laws_markFileS r5.1)
  ((cI .i64 (cellsAt r5.1 0) 0).bind fun i6 =>
  some ([.one (Cell.int i6)], r5.2))
  none
theorem laws_markMade_code (k m : Nat) (s1 : ByteArray) (c2 : Cell) (s3 : ByteArray) (i4 : Int) (H : List Entry) : evC G_laws_markMade fi_laws_markMade (evF G_laws_markMade (k + 1)) m fi_laws_markMade.code none (retK G_laws_markMade fi_laws_markMade) (enter fi_laws_markMade [.agg [Cell.str s1, c2, Cell.str s3], .one (Cell.int i4)] H) = laws_markMade (k + 1) m s1 c2 s3 i4 H := by
  kernel_rfl
theorem laws_markMade_eq (k : Nat) (s1 : ByteArray) (c2 : Cell) (s3 : ByteArray) (i4 : Int) (H : List Entry) : evF G_laws_markMade (k + 2) fid_laws_markMade [.agg [Cell.str s1, c2, Cell.str s3], .one (Cell.int i4)] H = laws_markMade (k + 1) (k + 1) s1 c2 s3 i4 H :=
  Eq.trans (by kernel_rfl) (laws_markMade_code k (k + 1) s1 c2 s3 i4 H)
theorem run_laws_markMade_of {s1 : ByteArray} {c2 : Cell} {s3 : ByteArray} {i4 : Int} {H : List Entry} {r : Res} (k : Nat) (h : laws_markMade (k + 1) (k + 1) s1 c2 s3 i4 H = some r) : run_laws_markMade [.agg [Cell.str s1, c2, Cell.str s3], .one (Cell.int i4)] H = some r := lim_of ((laws_markMade_eq k s1 c2 s3 i4 H).trans h)
noncomputable def pl_laws_markByteS : List (Nat × Run) := []
noncomputable def G_laws_markByteS : Ctx := ctx tyTab fiTab pl_laws_markByteS
noncomputable def run_laws_markByteS : Run := lim G_laws_markByteS fid_laws_markByteS
theorem ok_laws_markByteS : FnOk Tryd.prog OkT fid_laws_markByteS run_laws_markByteS := lim_ok (l := pl_laws_markByteS) Tryd_mix tyTab_ok fiTab_ok okT .nil fid_laws_markByteS
noncomputable def laws_markByteS_l0 (k m : Nat) : Nat → Cell → Int → Int → List Entry → Option Res
  | 0, _, _, _, _ => none
  | n + 1, c3, i4, i5, H6 =>
    (lenC c3).bind fun n7 =>
    cond (decide (i5 < (n7 : Int)))
    ((idxA 1 (c3) i5).bind fun c8 =>
    (hStore H6 (c8) [.sc (.int .u8 (IntKind.u8.wrap i4))]).bind fun h9 =>
    laws_markByteS_l0 k m n (c3) (IntKind.i64.wrap (i4 + 1)) (IntKind.i64.wrap (i5 + 1)) h9)
    (some ([.one (Cell.int i4)], H6))
noncomputable def laws_markByteS (k m : Nat) (c1 : Cell) (i2 : Int) (H : List Entry) : Option Res :=
  laws_markByteS_l0 k m m (c1) i2 0 H
noncomputable abbrev laws_markByteS_l0_B (k m : Nat) : (Ex → Fr → Option Res) → Fr → Option Res := evC G_laws_markByteS fi_laws_markByteS (evF G_laws_markByteS (k + 1)) m (sub [1, 0, 1, 2, 3] fi_laws_markByteS.code) none
noncomputable abbrev laws_markByteS_l0_K (k m : Nat) : Ex → Fr → Option Res := blockK 0 (seqK (evC G_laws_markByteS fi_laws_markByteS (evF G_laws_markByteS (k + 1)) m (sub [1, 1] fi_laws_markByteS.code) none) (retK G_laws_markByteS fi_laws_markByteS))
theorem laws_markByteS_l0_eq (k m : Nat) : ∀ (n : Nat) (c3 : Cell) (i4 : Int) (i5 : Int) (H6 : List Entry), loopK (some [0, 1, 5]) (laws_markByteS_l0_B k m) (laws_markByteS_l0_K k m) n ⟨fT 20 0 [(0, .av (.one (c3))), (1, .av (.one (Cell.int i4))), (5, .av (.one (Cell.int i5)))], fX 20 0 [], H6⟩ = laws_markByteS_l0 (k + 1) m n c3 i4 i5 H6 := by
  intro n
  induction n with
  | zero => intros; rfl
  | succ n ih =>
    intros
    simp only [laws_markByteS_l0, ← ih]
    kernel_rfl
theorem laws_markByteS_code (k m : Nat) (c1 : Cell) (i2 : Int) (H : List Entry) : evC G_laws_markByteS fi_laws_markByteS (evF G_laws_markByteS (k + 1)) m fi_laws_markByteS.code none (retK G_laws_markByteS fi_laws_markByteS) (enter fi_laws_markByteS [.one (c1), .one (Cell.int i2)] H) = laws_markByteS (k + 1) m c1 i2 H := by
  simp only [laws_markByteS, ← laws_markByteS_l0_eq k m]
  kernel_rfl
theorem laws_markByteS_eq (k : Nat) (c1 : Cell) (i2 : Int) (H : List Entry) : evF G_laws_markByteS (k + 2) fid_laws_markByteS [.one (c1), .one (Cell.int i2)] H = laws_markByteS (k + 1) (k + 1) c1 i2 H :=
  Eq.trans (by kernel_rfl) (laws_markByteS_code k (k + 1) c1 i2 H)
theorem run_laws_markByteS_of {c1 : Cell} {i2 : Int} {H : List Entry} {r : Res} (k : Nat) (h : laws_markByteS (k + 1) (k + 1) c1 i2 H = some r) : run_laws_markByteS [.one (c1), .one (Cell.int i2)] H = some r := lim_of ((laws_markByteS_eq k c1 i2 H).trans h)
noncomputable def pl_spec_l17Sum : List (Nat × Run) := []
noncomputable def G_spec_l17Sum : Ctx := ctx tyTab fiTab pl_spec_l17Sum
noncomputable def run_spec_l17Sum : Run := lim G_spec_l17Sum fid_spec_l17Sum
theorem ok_spec_l17Sum : FnOk Tryd.prog OkT fid_spec_l17Sum run_spec_l17Sum := lim_ok (l := pl_spec_l17Sum) Tryd_mix tyTab_ok fiTab_ok okT .nil fid_spec_l17Sum
noncomputable def spec_l17Sum_l0 (k m : Nat) : Nat → Cell → Int → Int → Option Res
  | 0, _, _, _ => none
  | n + 1, c2, i3, i4 =>
    (lenC c2).bind fun n5 =>
    cond (decide (i4 < (n5 : Int)))
    ((idxA 1 (c2) i4).bind fun c6 =>
    (deref [] (c6)).bind fun p7 =>
    (cI .u8 p7.1 p7.2).bind fun i8 =>
    spec_l17Sum_l0 k m n (c2) ((IntKind.i64.wrap (i3 + (IntKind.i64.wrap i8))).tmod 65536) (IntKind.i64.wrap (i4 + 1)))
    (some ([.one (Cell.int i3)], []))
noncomputable def spec_l17Sum (k m : Nat) (c1 : Cell) : Option Res :=
  spec_l17Sum_l0 k m m (c1) 0 0
noncomputable abbrev spec_l17Sum_l0_B (k m : Nat) : (Ex → Fr → Option Res) → Fr → Option Res := evC G_spec_l17Sum fi_spec_l17Sum (evF G_spec_l17Sum (k + 1)) m (sub [1, 1, 0, 1, 2, 3] fi_spec_l17Sum.code) none
noncomputable abbrev spec_l17Sum_l0_K (k m : Nat) : Ex → Fr → Option Res := blockK 0 (seqK (evC G_spec_l17Sum fi_spec_l17Sum (evF G_spec_l17Sum (k + 1)) m (sub [1, 1, 1] fi_spec_l17Sum.code) none) (retK G_spec_l17Sum fi_spec_l17Sum))
theorem spec_l17Sum_l0_eq (k m : Nat) : ∀ (n : Nat) (c2 : Cell) (i3 : Int) (i4 : Int), loopK (some [0, 3, 4]) (spec_l17Sum_l0_B k m) (spec_l17Sum_l0_K k m) n ⟨fT 20 0 [(0, .av (.one (c2))), (3, .av (.one (Cell.int i3))), (4, .av (.one (Cell.int i4)))], fX 20 0 [], []⟩ = spec_l17Sum_l0 (k + 1) m n c2 i3 i4 := by
  intro n
  induction n with
  | zero => intros; rfl
  | succ n ih =>
    intros
    simp only [spec_l17Sum_l0, ← ih]
    kernel_rfl
theorem spec_l17Sum_code (k m : Nat) (c1 : Cell) : evC G_spec_l17Sum fi_spec_l17Sum (evF G_spec_l17Sum (k + 1)) m fi_spec_l17Sum.code none (retK G_spec_l17Sum fi_spec_l17Sum) (enter fi_spec_l17Sum [.one (c1)] []) = spec_l17Sum (k + 1) m c1 := by
  simp only [spec_l17Sum, ← spec_l17Sum_l0_eq k m]
  kernel_rfl
theorem spec_l17Sum_eq (k : Nat) (c1 : Cell) : evF G_spec_l17Sum (k + 2) fid_spec_l17Sum [.one (c1)] [] = spec_l17Sum (k + 1) (k + 1) c1 :=
  Eq.trans (by kernel_rfl) (spec_l17Sum_code k (k + 1) c1)
theorem run_spec_l17Sum_of {c1 : Cell} {r : Res} (k : Nat) (h : spec_l17Sum (k + 1) (k + 1) c1 = some r) : run_spec_l17Sum [.one (c1)] [] = some r := lim_of ((spec_l17Sum_eq k c1).trans h)
noncomputable def pl_spec_l1In : List (Nat × Run) := []
noncomputable def G_spec_l1In : Ctx := ctx tyTab fiTab pl_spec_l1In
noncomputable def run_spec_l1In : Run := lim G_spec_l1In fid_spec_l1In
theorem ok_spec_l1In : FnOk Tryd.prog OkT fid_spec_l1In run_spec_l1In := lim_ok (l := pl_spec_l1In) Tryd_mix tyTab_ok fiTab_ok okT .nil fid_spec_l1In
noncomputable def spec_l1In (k m : Nat) (i1 : Int) (i2 : Int) (i3 : Int) : Option Res :=
  cond (decide (i1 ≥ i2))
  (some ([.one (Cell.bool (decide (i1 ≤ i3)))], []))
  (some ([.one (Cell.bool false)], []))
theorem spec_l1In_code (k m : Nat) (i1 : Int) (i2 : Int) (i3 : Int) : evC G_spec_l1In fi_spec_l1In (evF G_spec_l1In (k + 1)) m fi_spec_l1In.code none (retK G_spec_l1In fi_spec_l1In) (enter fi_spec_l1In [.one (Cell.int i1), .one (Cell.int i2), .one (Cell.int i3)] []) = spec_l1In (k + 1) m i1 i2 i3 := by
  kernel_rfl
theorem spec_l1In_eq (k : Nat) (i1 : Int) (i2 : Int) (i3 : Int) : evF G_spec_l1In (k + 2) fid_spec_l1In [.one (Cell.int i1), .one (Cell.int i2), .one (Cell.int i3)] [] = spec_l1In (k + 1) (k + 1) i1 i2 i3 :=
  Eq.trans (by kernel_rfl) (spec_l1In_code k (k + 1) i1 i2 i3)
theorem run_spec_l1In_of {i1 : Int} {i2 : Int} {i3 : Int} {r : Res} (k : Nat) (h : spec_l1In (k + 1) (k + 1) i1 i2 i3 = some r) : run_spec_l1In [.one (Cell.int i1), .one (Cell.int i2), .one (Cell.int i3)] [] = some r := lim_of ((spec_l1In_eq k i1 i2 i3).trans h)
noncomputable def pl_spec_GetText : List (Nat × Run) := [(fid_spec_l1In, run_spec_l1In)]
noncomputable def G_spec_GetText : Ctx := ctx tyTab fiTab pl_spec_GetText
noncomputable def run_spec_GetText : Run := lim G_spec_GetText fid_spec_GetText
theorem ok_spec_GetText : FnOk Tryd.prog OkT fid_spec_GetText run_spec_GetText := lim_ok (l := pl_spec_GetText) Tryd_mix tyTab_ok fiTab_ok okT (.cons ok_spec_l1In .nil) fid_spec_GetText
noncomputable def spec_GetText (k m : Nat) (c1 : Cell) (i2 : Int) : Option Res :=
  (lenC c1).bind fun n3 =>
  (callS run_spec_l1In [.one (Cell.int i2), .one (Cell.int 0), .one (Cell.int (IntKind.i64.wrap ((n3 : Int) - 2)))] []).bind fun r4 =>
  cond (shapeOk rk_spec_l1In r4)
  ((cB (cellsAt r4 0) 0).bind fun b5 =>
  cond (!b5)
  (some ([.one (Cell.str (bs [])), .one (Cell.int 0), .one (Cell.bool false)], []))
  ((idxA 1 (c1) i2).bind fun c6 =>
  (deref [] (c6)).bind fun p7 =>
  (cI .u8 p7.1 p7.2).bind fun i8 =>
  (idxA 1 (c1) (IntKind.i64.wrap (i2 + 1))).bind fun c9 =>
  (deref [] (c9)).bind fun p10 =>
  (cI .u8 p10.1 p10.2).bind fun i11 =>
  (lenC c1).bind fun n12 =>
  cond (decide ((orI .i64 (shlI .i64 (IntKind.i64.wrap i8) 8) (IntKind.i64.wrap i11)) > (IntKind.i64.wrap ((IntKind.i64.wrap ((n12 : Int) - i2)) - 2))))
  (some ([.one (Cell.str (bs [])), .one (Cell.int 0), .one (Cell.bool false)], []))
  (cond (decide ((orI .i64 (shlI .i64 (IntKind.i64.wrap i8) 8) (IntKind.i64.wrap i11)) > 60000))
  (some ([.one (Cell.str (bs [])), .one (Cell.int 0), .one (Cell.bool false)], []))
  ((slcC 1 (c1) (IntKind.i64.wrap (i2 + 2)) (some (IntKind.i64.wrap ((IntKind.i64.wrap (i2 + 2)) + (orI .i64 (shlI .i64 (IntKind.i64.wrap i8) 8) (IntKind.i64.wrap i11))))) none).bind fun c13 =>
  (bytesOf [] (c13)).bind fun s14 =>
  some ([.one (Cell.str s14), .one (Cell.int (IntKind.i64.wrap ((IntKind.i64.wrap (i2 + 2)) + (orI .i64 (shlI .i64 (IntKind.i64.wrap i8) 8) (IntKind.i64.wrap i11))))), .one (Cell.bool true)], [])))))
  none
theorem spec_GetText_code (k m : Nat) (c1 : Cell) (i2 : Int) : evC G_spec_GetText fi_spec_GetText (evF G_spec_GetText (k + 1)) m fi_spec_GetText.code none (retK G_spec_GetText fi_spec_GetText) (enter fi_spec_GetText [.one (c1), .one (Cell.int i2)] []) = spec_GetText (k + 1) m c1 i2 := by
  kernel_rfl
theorem spec_GetText_eq (k : Nat) (c1 : Cell) (i2 : Int) : evF G_spec_GetText (k + 2) fid_spec_GetText [.one (c1), .one (Cell.int i2)] [] = spec_GetText (k + 1) (k + 1) c1 i2 :=
  Eq.trans (by kernel_rfl) (spec_GetText_code k (k + 1) c1 i2)
theorem run_spec_GetText_of {c1 : Cell} {i2 : Int} {r : Res} (k : Nat) (h : spec_GetText (k + 1) (k + 1) c1 i2 = some r) : run_spec_GetText [.one (c1), .one (Cell.int i2)] [] = some r := lim_of ((spec_GetText_eq k c1 i2).trans h)
noncomputable def pl_spec_l17Text : List (Nat × Run) := [(fid_spec_GetText, run_spec_GetText)]
noncomputable def G_spec_l17Text : Ctx := ctx tyTab fiTab pl_spec_l17Text
noncomputable def run_spec_l17Text : Run := lim G_spec_l17Text fid_spec_l17Text
theorem ok_spec_l17Text : FnOk Tryd.prog OkT fid_spec_l17Text run_spec_l17Text := lim_ok (l := pl_spec_l17Text) Tryd_mix tyTab_ok fiTab_ok okT (.cons ok_spec_GetText .nil) fid_spec_l17Text
noncomputable def spec_l17Text (k m : Nat) (c1 : Cell) (H : List Entry) : Option Res :=
  (ptrC c1).bind fun c2 =>
  (fldA c2 0).bind fun c3 =>
  (deref H (c3)).bind fun p4 =>
  (cC p4.1 p4.2).bind fun c5 =>
  (ptrC c1).bind fun c6 =>
  (fldA c6 1).bind fun c7 =>
  (deref H (c7)).bind fun p8 =>
  (cI .i64 p8.1 p8.2).bind fun i9 =>
  (callS run_spec_GetText [.one (c5), .one (Cell.int i9)] H).bind fun r10 =>
  cond (shapeOk rk_spec_GetText r10)
  ((cS (cellsAt r10 0) 0).bind fun s11 =>
  (cI .i64 (cellsAt r10 1) 0).bind fun i12 =>
  (cB (cellsAt r10 2) 0).bind fun b13 =>
  (ptrC c1).bind fun c14 =>
  (fldA c14 2).bind fun c15 =>
  (deref H (c15)).bind fun p16 =>
  (cB p16.1 p16.2).bind fun b17 =>
  cond b17
  ((ptrC c1).bind fun c18 =>
  (fldA c18 2).bind fun c19 =>
  (hStore H (c19) [Cell.bool true]).bind fun h20 =>
  some ([.one (Cell.str (bs []))], h20))
  (cond (!b13)
  ((ptrC c1).bind fun c21 =>
  (fldA c21 2).bind fun c22 =>
  (hStore H (c22) [Cell.bool true]).bind fun h23 =>
  some ([.one (Cell.str (bs []))], h23))
  ((ptrC c1).bind fun c24 =>
  (fldA c24 1).bind fun c25 =>
  (hStore H (c25) [Cell.int i12]).bind fun h26 =>
  some ([.one (Cell.str s11)], h26))))
  none
theorem spec_l17Text_code (k m : Nat) (c1 : Cell) (H : List Entry) : evC G_spec_l17Text fi_spec_l17Text (evF G_spec_l17Text (k + 1)) m fi_spec_l17Text.code none (retK G_spec_l17Text fi_spec_l17Text) (enter fi_spec_l17Text [.one (c1)] H) = spec_l17Text (k + 1) m c1 H := by
  kernel_rfl
theorem spec_l17Text_eq (k : Nat) (c1 : Cell) (H : List Entry) : evF G_spec_l17Text (k + 2) fid_spec_l17Text [.one (c1)] H = spec_l17Text (k + 1) (k + 1) c1 H :=
  Eq.trans (by kernel_rfl) (spec_l17Text_code k (k + 1) c1 H)
theorem run_spec_l17Text_of {c1 : Cell} {H : List Entry} {r : Res} (k : Nat) (h : spec_l17Text (k + 1) (k + 1) c1 H = some r) : run_spec_l17Text [.one (c1)] H = some r := lim_of ((spec_l17Text_eq k c1 H).trans h)
noncomputable def pl_spec_l1Digit : List (Nat × Run) := [(fid_spec_l1In, run_spec_l1In)]
noncomputable def G_spec_l1Digit : Ctx := ctx tyTab fiTab pl_spec_l1Digit
noncomputable def run_spec_l1Digit : Run := lim G_spec_l1Digit fid_spec_l1Digit
theorem ok_spec_l1Digit : FnOk Tryd.prog OkT fid_spec_l1Digit run_spec_l1Digit := lim_ok (l := pl_spec_l1Digit) Tryd_mix tyTab_ok fiTab_ok okT (.cons ok_spec_l1In .nil) fid_spec_l1Digit
noncomputable def spec_l1Digit (k m : Nat) (i1 : Int) : Option Res :=
  (callS run_spec_l1In [.one (Cell.int (IntKind.i64.wrap i1)), .one (Cell.int 48), .one (Cell.int 57)] []).bind fun r2 =>
  cond (shapeOk rk_spec_l1In r2)
  ((cB (cellsAt r2 0) 0).bind fun b3 =>
  some ([.one (Cell.bool b3)], []))
  none
theorem spec_l1Digit_code (k m : Nat) (i1 : Int) : evC G_spec_l1Digit fi_spec_l1Digit (evF G_spec_l1Digit (k + 1)) m fi_spec_l1Digit.code none (retK G_spec_l1Digit fi_spec_l1Digit) (enter fi_spec_l1Digit [.one (.sc (.int .u8 i1))] []) = spec_l1Digit (k + 1) m i1 := by
  kernel_rfl
theorem spec_l1Digit_eq (k : Nat) (i1 : Int) : evF G_spec_l1Digit (k + 2) fid_spec_l1Digit [.one (.sc (.int .u8 i1))] [] = spec_l1Digit (k + 1) (k + 1) i1 :=
  Eq.trans (by kernel_rfl) (spec_l1Digit_code k (k + 1) i1)
theorem run_spec_l1Digit_of {i1 : Int} {r : Res} (k : Nat) (h : spec_l1Digit (k + 1) (k + 1) i1 = some r) : run_spec_l1Digit [.one (.sc (.int .u8 i1))] [] = some r := lim_of ((spec_l1Digit_eq k i1).trans h)
noncomputable def pl_spec_ParseNum : List (Nat × Run) := [(fid_spec_l1In, run_spec_l1In), (fid_spec_l1Digit, run_spec_l1Digit)]
noncomputable def G_spec_ParseNum : Ctx := ctx tyTab fiTab pl_spec_ParseNum
noncomputable def run_spec_ParseNum : Run := lim G_spec_ParseNum fid_spec_ParseNum
theorem ok_spec_ParseNum : FnOk Tryd.prog OkT fid_spec_ParseNum run_spec_ParseNum := lim_ok (l := pl_spec_ParseNum) Tryd_mix tyTab_ok fiTab_ok okT (.cons ok_spec_l1In (.cons ok_spec_l1Digit .nil)) fid_spec_ParseNum
noncomputable def spec_ParseNum_l0 (k m : Nat) : Nat → ByteArray → Int → Int → Int → Option Res
  | 0, _, _, _, _ => none
  | n + 1, s3, i4, i5, i6 =>
    cond (decide (i6 < (s3.size : Int)))
    (cond (decide (i6 < 8))
    ((bytS s3 i6).bind fun i7 =>
    (callS run_spec_l1Digit [.one (.sc (.int .u8 i7))] []).bind fun r8 =>
    cond (shapeOk rk_spec_l1Digit r8)
    ((cB (cellsAt r8 0) 0).bind fun b9 =>
    cond (!b9)
    (some ([.one (Cell.int 0), .one (Cell.bool false)], []))
    ((bytS s3 i6).bind fun i10 =>
    spec_ParseNum_l0 k m n s3 i4 (IntKind.i64.wrap ((IntKind.i64.wrap (i5 * 10)) + (IntKind.i64.wrap (IntKind.u8.wrap (i10 - 48))))) (IntKind.i64.wrap (i6 + 1))))
    none)
    ((callS run_spec_l1In [.one (Cell.int (s3.size : Int)), .one (Cell.int 1), .one (Cell.int 7)] []).bind fun r11 =>
    cond (shapeOk rk_spec_l1In r11)
    ((cB (cellsAt r11 0) 0).bind fun b12 =>
    cond (!b12)
    (some ([.one (Cell.int 0), .one (Cell.bool false)], []))
    (cond (decide ((s3.size : Int) > 1))
    ((bytS s3 0).bind fun i13 =>
    cond (i13 == 48)
    (some ([.one (Cell.int 0), .one (Cell.bool false)], []))
    (cond (decide (i5 > i4))
    (some ([.one (Cell.int 0), .one (Cell.bool false)], []))
    (some ([.one (Cell.int i5), .one (Cell.bool true)], []))))
    (cond (decide (i5 > i4))
    (some ([.one (Cell.int 0), .one (Cell.bool false)], []))
    (some ([.one (Cell.int i5), .one (Cell.bool true)], [])))))
    none))
    ((callS run_spec_l1In [.one (Cell.int (s3.size : Int)), .one (Cell.int 1), .one (Cell.int 7)] []).bind fun r14 =>
    cond (shapeOk rk_spec_l1In r14)
    ((cB (cellsAt r14 0) 0).bind fun b15 =>
    cond (!b15)
    (some ([.one (Cell.int 0), .one (Cell.bool false)], []))
    (cond (decide ((s3.size : Int) > 1))
    ((bytS s3 0).bind fun i16 =>
    cond (i16 == 48)
    (some ([.one (Cell.int 0), .one (Cell.bool false)], []))
    (cond (decide (i5 > i4))
    (some ([.one (Cell.int 0), .one (Cell.bool false)], []))
    (some ([.one (Cell.int i5), .one (Cell.bool true)], []))))
    (cond (decide (i5 > i4))
    (some ([.one (Cell.int 0), .one (Cell.bool false)], []))
    (some ([.one (Cell.int i5), .one (Cell.bool true)], [])))))
    none)
noncomputable def spec_ParseNum (k m : Nat) (s1 : ByteArray) (i2 : Int) : Option Res :=
  spec_ParseNum_l0 k m m s1 i2 0 0
noncomputable abbrev spec_ParseNum_l0_B (k m : Nat) : (Ex → Fr → Option Res) → Fr → Option Res := evC G_spec_ParseNum fi_spec_ParseNum (evF G_spec_ParseNum (k + 1)) m (sub [1, 1, 0, 1, 2, 3] fi_spec_ParseNum.code) none
noncomputable abbrev spec_ParseNum_l0_K (k m : Nat) : Ex → Fr → Option Res := blockK 0 (seqK (evC G_spec_ParseNum fi_spec_ParseNum (evF G_spec_ParseNum (k + 1)) m (sub [1, 1, 1] fi_spec_ParseNum.code) none) (retK G_spec_ParseNum fi_spec_ParseNum))
theorem spec_ParseNum_l0_eq (k m : Nat) : ∀ (n : Nat) (s3 : ByteArray) (i4 : Int) (i5 : Int) (i6 : Int), loopK (some [0, 1, 6, 7]) (spec_ParseNum_l0_B k m) (spec_ParseNum_l0_K k m) n ⟨fT 51 0 [(0, .av (.one (Cell.str s3))), (1, .av (.one (Cell.int i4))), (6, .av (.one (Cell.int i5))), (7, .av (.one (Cell.int i6)))], fX 51 0 [], []⟩ = spec_ParseNum_l0 (k + 1) m n s3 i4 i5 i6 := by
  intro n
  induction n with
  | zero => intros; rfl
  | succ n ih =>
    intros
    simp only [spec_ParseNum_l0, ← ih]
    kernel_rfl
theorem spec_ParseNum_code (k m : Nat) (s1 : ByteArray) (i2 : Int) : evC G_spec_ParseNum fi_spec_ParseNum (evF G_spec_ParseNum (k + 1)) m fi_spec_ParseNum.code none (retK G_spec_ParseNum fi_spec_ParseNum) (enter fi_spec_ParseNum [.one (Cell.str s1), .one (Cell.int i2)] []) = spec_ParseNum (k + 1) m s1 i2 := by
  simp only [spec_ParseNum, ← spec_ParseNum_l0_eq k m]
  kernel_rfl
theorem spec_ParseNum_eq (k : Nat) (s1 : ByteArray) (i2 : Int) : evF G_spec_ParseNum (k + 2) fid_spec_ParseNum [.one (Cell.str s1), .one (Cell.int i2)] [] = spec_ParseNum (k + 1) (k + 1) s1 i2 :=
  Eq.trans (by kernel_rfl) (spec_ParseNum_code k (k + 1) s1 i2)
theorem run_spec_ParseNum_of {s1 : ByteArray} {i2 : Int} {r : Res} (k : Nat) (h : spec_ParseNum (k + 1) (k + 1) s1 i2 = some r) : run_spec_ParseNum [.one (Cell.str s1), .one (Cell.int i2)] [] = some r := lim_of ((spec_ParseNum_eq k s1 i2).trans h)
noncomputable def pl_spec_GetMade : List (Nat × Run) := [(fid_spec_l17Sum, run_spec_l17Sum), (fid_spec_l17Text, run_spec_l17Text), (fid_spec_ParseNum, run_spec_ParseNum)]
noncomputable def G_spec_GetMade : Ctx := ctx tyTab fiTab pl_spec_GetMade
noncomputable def run_spec_GetMade : Run := lim G_spec_GetMade fid_spec_GetMade
theorem ok_spec_GetMade : FnOk Tryd.prog OkT fid_spec_GetMade run_spec_GetMade := lim_ok (l := pl_spec_GetMade) Tryd_mix tyTab_ok fiTab_ok okT (.cons ok_spec_l17Sum (.cons ok_spec_l17Text (.cons ok_spec_ParseNum .nil))) fid_spec_GetMade
noncomputable def spec_GetMade_l0 (k m : Nat) : Nat → Int → Int → Bool → Int → ByteArray → Cell → ByteArray → List Entry → Option Res
  | 0, _, _, _, _, _, _, _, _ => none
  | n + 1, i22, i23, b24, i25, s26, c27, s28, H29 =>
    cond (decide (i25 < i23))
    (cond b24
    ((deref H29 (.ptr 0 3 0 2 0)).bind fun p30 =>
    (cB p30.1 p30.2).bind fun b31 =>
    cond (!b31)
    ((run_spec_l17Text [.one (.ptr 0 3 0 0 0)] H29).bind fun r32 =>
    cond (shapeOk rk_spec_l17Text r32.1)
    ((cS (cellsAt r32.1 0) 0).bind fun s33 =>
    (run_spec_l17Text [.one (.ptr 0 3 0 0 0)] r32.2).bind fun r34 =>
    cond (shapeOk rk_spec_l17Text r34.1)
    ((cS (cellsAt r34.1 0) 0).bind fun s35 =>
    (app r34.2 2 32 (c27) [[Cell.str s33, Cell.str s35]]).bind fun p36 =>
    spec_GetMade_l0 k m n i22 i23 b24 (IntKind.i64.wrap (i25 + 1)) s26 (p36.1) s28 p36.2)
    none)
    none)
    ((deref H29 (.ptr 0 3 0 2 0)).bind fun p37 =>
    (cB p37.1 p37.2).bind fun b38 =>
    cond b38
    (some ([.agg [Cell.str (bs []), .lst true 2 [], Cell.str (bs [])], .one (Cell.bool false)], H29))
    (cond (!b24)
    (some ([.agg [Cell.str (bs []), .lst true 2 [], Cell.str (bs [])], .one (Cell.bool false)], H29))
    ((deref H29 (.ptr 0 3 0 1 0)).bind fun p39 =>
    (cI .i64 p39.1 p39.2).bind fun i40 =>
    cond (i40 != i22)
    (some ([.agg [Cell.str (bs []), .lst true 2 [], Cell.str (bs [])], .one (Cell.bool false)], H29))
    (some ([.agg [Cell.str s26, c27, Cell.str s28], .one (Cell.bool true)], H29))))))
    ((deref H29 (.ptr 0 3 0 2 0)).bind fun p41 =>
    (cB p41.1 p41.2).bind fun b42 =>
    cond b42
    (some ([.agg [Cell.str (bs []), .lst true 2 [], Cell.str (bs [])], .one (Cell.bool false)], H29))
    (cond (!b24)
    (some ([.agg [Cell.str (bs []), .lst true 2 [], Cell.str (bs [])], .one (Cell.bool false)], H29))
    ((deref H29 (.ptr 0 3 0 1 0)).bind fun p43 =>
    (cI .i64 p43.1 p43.2).bind fun i44 =>
    cond (i44 != i22)
    (some ([.agg [Cell.str (bs []), .lst true 2 [], Cell.str (bs [])], .one (Cell.bool false)], H29))
    (some ([.agg [Cell.str s26, c27, Cell.str s28], .one (Cell.bool true)], H29))))))
    ((deref H29 (.ptr 0 3 0 2 0)).bind fun p45 =>
    (cB p45.1 p45.2).bind fun b46 =>
    cond b46
    (some ([.agg [Cell.str (bs []), .lst true 2 [], Cell.str (bs [])], .one (Cell.bool false)], H29))
    (cond (!b24)
    (some ([.agg [Cell.str (bs []), .lst true 2 [], Cell.str (bs [])], .one (Cell.bool false)], H29))
    ((deref H29 (.ptr 0 3 0 1 0)).bind fun p47 =>
    (cI .i64 p47.1 p47.2).bind fun i48 =>
    cond (i48 != i22)
    (some ([.agg [Cell.str (bs []), .lst true 2 [], Cell.str (bs [])], .one (Cell.bool false)], H29))
    (some ([.agg [Cell.str s26, c27, Cell.str s28], .one (Cell.bool true)], H29)))))
noncomputable def spec_GetMade (k m : Nat) (c1 : Cell) : Option Res :=
  (lenC c1).bind fun n2 =>
  cond (decide ((IntKind.i64.wrap ((n2 : Int) - 2)) < 0))
  (some ([.agg [Cell.str (bs []), .lst true 2 [], Cell.str (bs [])], .one (Cell.bool false)], []))
  ((slcC 1 (c1) 0 (some (IntKind.i64.wrap ((n2 : Int) - 2))) none).bind fun c3 =>
  (slcC 1 (c1) 0 (some (IntKind.i64.wrap ((n2 : Int) - 2))) none).bind fun c4 =>
  (callS run_spec_l17Sum [.one (c4)] []).bind fun r5 =>
  cond (shapeOk rk_spec_l17Sum r5)
  ((cI .i64 (cellsAt r5 0) 0).bind fun i6 =>
  (idxA 1 (c1) (IntKind.i64.wrap ((n2 : Int) - 2))).bind fun c7 =>
  (deref [] (c7)).bind fun p8 =>
  (cI .u8 p8.1 p8.2).bind fun i9 =>
  (idxA 1 (c1) (IntKind.i64.wrap ((IntKind.i64.wrap ((n2 : Int) - 2)) + 1))).bind fun c10 =>
  (deref [] (c10)).bind fun p11 =>
  (cI .u8 p11.1 p11.2).bind fun i12 =>
  (run_spec_l17Text [.one (.ptr 0 3 0 0 0)] [Entry.mk 3 [[c3, Cell.int 0, Cell.bool (i6 != (orI .i64 (shlI .i64 (IntKind.i64.wrap i9) 8) (IntKind.i64.wrap i12)))]] 0 false]).bind fun r13 =>
  cond (shapeOk rk_spec_l17Text r13.1)
  ((cS (cellsAt r13.1 0) 0).bind fun s14 =>
  (run_spec_l17Text [.one (.ptr 0 3 0 0 0)] r13.2).bind fun r15 =>
  cond (shapeOk rk_spec_l17Text r15.1)
  ((cS (cellsAt r15.1 0) 0).bind fun s16 =>
  (run_spec_l17Text [.one (.ptr 0 3 0 0 0)] r15.2).bind fun r17 =>
  cond (shapeOk rk_spec_l17Text r17.1)
  ((cS (cellsAt r17.1 0) 0).bind fun s18 =>
  (callS run_spec_ParseNum [.one (Cell.str s18), .one (Cell.int 1000)] r17.2).bind fun r19 =>
  cond (shapeOk rk_spec_ParseNum r19)
  ((cI .i64 (cellsAt r19 0) 0).bind fun i20 =>
  (cB (cellsAt r19 1) 0).bind fun b21 =>
  spec_GetMade_l0 k m m (IntKind.i64.wrap ((n2 : Int) - 2)) i20 b21 0 s14 (.lst true 2 []) s16 r17.2)
  none)
  none)
  none)
  none)
  none)
noncomputable abbrev spec_GetMade_l0_B (k m : Nat) : (Ex → Fr → Option Res) → Fr → Option Res := evC G_spec_GetMade fi_spec_GetMade (evF G_spec_GetMade (k + 1)) m (sub [1, 1, 1, 1, 1, 1, 1, 0, 1, 2, 3] fi_spec_GetMade.code) none
noncomputable abbrev spec_GetMade_l0_K (k m : Nat) : Ex → Fr → Option Res := blockK 0 (seqK (evC G_spec_GetMade fi_spec_GetMade (evF G_spec_GetMade (k + 1)) m (sub [1, 1, 1, 1, 1, 1, 1, 1] fi_spec_GetMade.code) none) (retK G_spec_GetMade fi_spec_GetMade))
theorem spec_GetMade_l0_eq (k m : Nat) : ∀ (n : Nat) (i22 : Int) (i23 : Int) (b24 : Bool) (i25 : Int) (s26 : ByteArray) (c27 : Cell) (s28 : ByteArray) (H29 : List Entry), loopK (some [2, 4, 5, 6, 7, 8, 9]) (spec_GetMade_l0_B k m) (spec_GetMade_l0_K k m) n ⟨fT 97 0 [(2, .loc 2 0), (4, .av (.one (Cell.int i22))), (5, .av (.one (.ptr 0 3 0 0 0))), (6, .loc 6 0), (7, .av (.one (Cell.int i23))), (8, .av (.one (Cell.bool b24))), (9, .av (.one (Cell.int i25)))], fX 97 0 [(2, [Cell.str (bs []), .lst true 2 [], Cell.str (bs [])]), (6, [Cell.str s26, c27, Cell.str s28])], H29⟩ = spec_GetMade_l0 (k + 1) m n i22 i23 b24 i25 s26 c27 s28 H29 := by
  intro n
  induction n with
  | zero => intros; rfl
  | succ n ih =>
    intros
    simp only [spec_GetMade_l0, ← ih]
    kernel_rfl
theorem spec_GetMade_code (k m : Nat) (c1 : Cell) : evC G_spec_GetMade fi_spec_GetMade (evF G_spec_GetMade (k + 1)) m fi_spec_GetMade.code none (retK G_spec_GetMade fi_spec_GetMade) (enter fi_spec_GetMade [.one (c1)] []) = spec_GetMade (k + 1) m c1 := by
  simp only [spec_GetMade, ← spec_GetMade_l0_eq k m]
  kernel_rfl
theorem spec_GetMade_eq (k : Nat) (c1 : Cell) : evF G_spec_GetMade (k + 2) fid_spec_GetMade [.one (c1)] [] = spec_GetMade (k + 1) (k + 1) c1 :=
  Eq.trans (by kernel_rfl) (spec_GetMade_code k (k + 1) c1)
theorem run_spec_GetMade_of {c1 : Cell} {r : Res} (k : Nat) (h : spec_GetMade (k + 1) (k + 1) c1 = some r) : run_spec_GetMade [.one (c1)] [] = some r := lim_of ((spec_GetMade_eq k c1).trans h)
noncomputable def pl_laws_toByteS : List (Nat × Run) := []
noncomputable def G_laws_toByteS : Ctx := ctx tyTab fiTab pl_laws_toByteS
noncomputable def run_laws_toByteS : Run := lim G_laws_toByteS fid_laws_toByteS
theorem ok_laws_toByteS : FnOk Tryd.prog OkT fid_laws_toByteS run_laws_toByteS := lim_ok (l := pl_laws_toByteS) Tryd_mix tyTab_ok fiTab_ok okT .nil fid_laws_toByteS
noncomputable def laws_toByteS_l0 (k m : Nat) : Nat → Cell → Cell → Int → List Entry → Option Res
  | 0, _, _, _, _ => none
  | n + 1, c3, c4, i5, H6 =>
    (lenC c3).bind fun n7 =>
    cond (decide (i5 < (n7 : Int)))
    ((idxA 1 (c3) i5).bind fun c8 =>
    (deref H6 (c8)).bind fun p9 =>
    (cI .u8 p9.1 p9.2).bind fun i10 =>
    (idxA 1 (c4) i5).bind fun c11 =>
    (hStore H6 (c11) [.sc (.int .u8 i10)]).bind fun h12 =>
    laws_toByteS_l0 k m n (c3) (c4) (IntKind.i64.wrap (i5 + 1)) h12)
    (some ([.one (c4)], H6))
noncomputable def laws_toByteS (k m : Nat) (c1 : Cell) : Option Res :=
  (lenC c1).bind fun n2 =>
  if 0 ≤ (n2 : Int) ∧ (n2 : Int) ≤ (n2 : Int) ∧ (n2 : Int) * 1 ≤ bound ∧ (n2 : Int) ≤ bound then
  (laws_toByteS_l0 k m m (c1) ((.vs 0 1 0 (n2 : Int).toNat 0)) 0 [Entry.mk 1 (mkRows (n2 : Int).toNat [.sc (.int .u8 0)]) 0 false]) else none
noncomputable abbrev laws_toByteS_l0_B (k m : Nat) : (Ex → Fr → Option Res) → Fr → Option Res := evC G_laws_toByteS fi_laws_toByteS (evF G_laws_toByteS (k + 1)) m (sub [1, 1, 0, 1, 2, 3] fi_laws_toByteS.code) none
noncomputable abbrev laws_toByteS_l0_K (k m : Nat) : Ex → Fr → Option Res := blockK 0 (seqK (evC G_laws_toByteS fi_laws_toByteS (evF G_laws_toByteS (k + 1)) m (sub [1, 1, 1] fi_laws_toByteS.code) none) (retK G_laws_toByteS fi_laws_toByteS))
theorem laws_toByteS_l0_eq (k m : Nat) : ∀ (n : Nat) (c3 : Cell) (c4 : Cell) (i5 : Int) (H6 : List Entry), loopK (some [0, 3, 4]) (laws_toByteS_l0_B k m) (laws_toByteS_l0_K k m) n ⟨fT 22 0 [(0, .av (.one (c3))), (3, .av (.one (c4))), (4, .av (.one (Cell.int i5)))], fX 22 0 [], H6⟩ = laws_toByteS_l0 (k + 1) m n c3 c4 i5 H6 := by
  intro n
  induction n with
  | zero => intros; rfl
  | succ n ih =>
    intros
    simp only [laws_toByteS_l0, ← ih]
    kernel_rfl
theorem laws_toByteS_code (k m : Nat) (c1 : Cell) : evC G_laws_toByteS fi_laws_toByteS (evF G_laws_toByteS (k + 1)) m fi_laws_toByteS.code none (retK G_laws_toByteS fi_laws_toByteS) (enter fi_laws_toByteS [.one (c1)] []) = laws_toByteS (k + 1) m c1 := by
  simp only [laws_toByteS, ← laws_toByteS_l0_eq k m]
  kernel_rfl
theorem laws_toByteS_eq (k : Nat) (c1 : Cell) : evF G_laws_toByteS (k + 2) fid_laws_toByteS [.one (c1)] [] = laws_toByteS (k + 1) (k + 1) c1 :=
  Eq.trans (by kernel_rfl) (laws_toByteS_code k (k + 1) c1)
theorem run_laws_toByteS_of {c1 : Cell} {r : Res} (k : Nat) (h : laws_toByteS (k + 1) (k + 1) c1 = some r) : run_laws_toByteS [.one (c1)] [] = some r := lim_of ((laws_toByteS_eq k c1).trans h)
noncomputable def pl_impl_putText : List (Nat × Run) := []
noncomputable def G_impl_putText : Ctx := ctx tyTab fiTab pl_impl_putText
noncomputable def run_impl_putText : Run := lim G_impl_putText fid_impl_putText
theorem ok_impl_putText : FnOk Tryd.prog OkT fid_impl_putText run_impl_putText := lim_ok (l := pl_impl_putText) Tryd_mix tyTab_ok fiTab_ok okT .nil fid_impl_putText
noncomputable def impl_putText (k m : Nat) (c1 : Cell) (s2 : ByteArray) (H : List Entry) : Option Res :=
  cond (decide ((s2.size : Int) > 60000))
  (some ([.one (c1)], H))
  ((app H 1 1 (c1) [[.sc (.int .u8 (IntKind.u8.wrap (shrI .i64 (s2.size : Int) 8)))], [.sc (.int .u8 (IntKind.u8.wrap (s2.size : Int)))]]).bind fun p3 =>
  (app p3.2 1 1 (p3.1) (byteRows s2)).bind fun p4 =>
  some ([.one (p4.1)], p4.2))
theorem impl_putText_code (k m : Nat) (c1 : Cell) (s2 : ByteArray) (H : List Entry) : evC G_impl_putText fi_impl_putText (evF G_impl_putText (k + 1)) m fi_impl_putText.code none (retK G_impl_putText fi_impl_putText) (enter fi_impl_putText [.one (c1), .one (Cell.str s2)] H) = impl_putText (k + 1) m c1 s2 H := by
  kernel_rfl
theorem impl_putText_eq (k : Nat) (c1 : Cell) (s2 : ByteArray) (H : List Entry) : evF G_impl_putText (k + 2) fid_impl_putText [.one (c1), .one (Cell.str s2)] H = impl_putText (k + 1) (k + 1) c1 s2 H :=
  Eq.trans (by kernel_rfl) (impl_putText_code k (k + 1) c1 s2 H)
theorem run_impl_putText_of {c1 : Cell} {s2 : ByteArray} {H : List Entry} {r : Res} (k : Nat) (h : impl_putText (k + 1) (k + 1) c1 s2 H = some r) : run_impl_putText [.one (c1), .one (Cell.str s2)] H = some r := lim_of ((impl_putText_eq k c1 s2 H).trans h)
noncomputable def pl_impl_NumText : List (Nat × Run) := [(fid_strconv_Itoa, run_strconv_Itoa)]
noncomputable def G_impl_NumText : Ctx := ctx tyTab fiTab pl_impl_NumText
noncomputable def run_impl_NumText : Run := lim G_impl_NumText fid_impl_NumText
theorem ok_impl_NumText : FnOk Tryd.prog OkT fid_impl_NumText run_impl_NumText := lim_ok (l := pl_impl_NumText) Tryd_mix tyTab_ok fiTab_ok okT (.cons ok_strconv_Itoa .nil) fid_impl_NumText
noncomputable def impl_NumText (k m : Nat) (i1 : Int) : Option Res :=
  (callS run_strconv_Itoa [.one (Cell.int (if i1 < 0 then 0 else i1))] []).bind fun r2 =>
  cond (shapeOk rk_strconv_Itoa r2)
  ((cS (cellsAt r2 0) 0).bind fun s3 =>
  some ([.one (Cell.str s3)], []))
  none
theorem impl_NumText_code (k m : Nat) (i1 : Int) : evC G_impl_NumText fi_impl_NumText (evF G_impl_NumText (k + 1)) m fi_impl_NumText.code none (retK G_impl_NumText fi_impl_NumText) (enter fi_impl_NumText [.one (Cell.int i1)] []) = impl_NumText (k + 1) m i1 := by
  kernel_rfl
theorem impl_NumText_eq (k : Nat) (i1 : Int) : evF G_impl_NumText (k + 2) fid_impl_NumText [.one (Cell.int i1)] [] = impl_NumText (k + 1) (k + 1) i1 :=
  Eq.trans (by kernel_rfl) (impl_NumText_code k (k + 1) i1)
theorem run_impl_NumText_of {i1 : Int} {r : Res} (k : Nat) (h : impl_NumText (k + 1) (k + 1) i1 = some r) : run_impl_NumText [.one (Cell.int i1)] [] = some r := lim_of ((impl_NumText_eq k i1).trans h)
noncomputable def pl_impl_putFiles : List (Nat × Run) := [(fid_impl_putText, run_impl_putText), (fid_impl_NumText, run_impl_NumText)]
noncomputable def G_impl_putFiles : Ctx := ctx tyTab fiTab pl_impl_putFiles
noncomputable def run_impl_putFiles : Run := lim G_impl_putFiles fid_impl_putFiles
theorem ok_impl_putFiles : FnOk Tryd.prog OkT fid_impl_putFiles run_impl_putFiles := lim_ok (l := pl_impl_putFiles) Tryd_mix tyTab_ok fiTab_ok okT (.cons ok_impl_putText (.cons ok_impl_NumText .nil)) fid_impl_putFiles
noncomputable def impl_putFiles_l0 (k m : Nat) : Nat → Cell → Cell → Int → Int → List Entry → Option Res
  | 0, _, _, _, _, _ => none
  | n + 1, c9, c10, i11, i12, H13 =>
    cond (decide (i12 < i11))
    ((idxA 2 (c10) i12).bind fun c14 =>
    (deref H13 (c14)).bind fun p15 =>
    (cS p15.1 p15.2).bind fun s16 =>
    (cS p15.1 (p15.2 + 1)).bind fun s17 =>
    (run_impl_putText [.one (c9), .one (Cell.str s16)] H13).bind fun r18 =>
    cond (shapeOk rk_impl_putText r18.1)
    ((cC (cellsAt r18.1 0) 0).bind fun c19 =>
    (run_impl_putText [.one (c19), .one (Cell.str s17)] r18.2).bind fun r20 =>
    cond (shapeOk rk_impl_putText r20.1)
    ((cC (cellsAt r20.1 0) 0).bind fun c21 =>
    impl_putFiles_l0 k m n (c21) (c10) i11 (IntKind.i64.wrap (i12 + 1)) r20.2)
    none)
    none)
    (some ([.one (c9)], H13))
noncomputable def impl_putFiles (k m : Nat) (c1 : Cell) (c2 : Cell) (H : List Entry) : Option Res :=
  (lenC c2).bind fun n3 =>
  (callS run_impl_NumText [.one (Cell.int (n3 : Int))] H).bind fun r4 =>
  cond (shapeOk rk_impl_NumText r4)
  ((cS (cellsAt r4 0) 0).bind fun s5 =>
  (run_impl_putText [.one (c1), .one (Cell.str s5)] H).bind fun r6 =>
  cond (shapeOk rk_impl_putText r6.1)
  ((cC (cellsAt r6.1 0) 0).bind fun c7 =>
  (lenC c2).bind fun n8 =>
  impl_putFiles_l0 k m m (c7) (c2) (n8 : Int) 0 r6.2)
  none)
  none
noncomputable abbrev impl_putFiles_l0_B (k m : Nat) : (Ex → Fr → Option Res) → Fr → Option Res := evC G_impl_putFiles fi_impl_putFiles (evF G_impl_putFiles (k + 1)) m (sub [1, 1, 0, 1, 2, 3] fi_impl_putFiles.code) none
noncomputable abbrev impl_putFiles_l0_K (k m : Nat) : Ex → Fr → Option Res := blockK 0 (seqK (evC G_impl_putFiles fi_impl_putFiles (evF G_impl_putFiles (k + 1)) m (sub [1, 1, 1] fi_impl_putFiles.code) none) (retK G_impl_putFiles fi_impl_putFiles))
theorem impl_putFiles_l0_eq (k m : Nat) : ∀ (n : Nat) (c9 : Cell) (c10 : Cell) (i11 : Int) (i12 : Int) (H13 : List Entry), loopK (some [0, 12, 13, 14]) (impl_putFiles_l0_B k m) (impl_putFiles_l0_K k m) n ⟨fT 27 0 [(0, .av (.one (c9))), (12, .av (.one (c10))), (13, .av (.one (Cell.int i11))), (14, .av (.one (Cell.int i12)))], fX 27 0 [], H13⟩ = impl_putFiles_l0 (k + 1) m n c9 c10 i11 i12 H13 := by
  intro n
  induction n with
  | zero => intros; rfl
  | succ n ih =>
    intros
    simp only [impl_putFiles_l0, ← ih]
    kernel_rfl
theorem impl_putFiles_code (k m : Nat) (c1 : Cell) (c2 : Cell) (H : List Entry) : evC G_impl_putFiles fi_impl_putFiles (evF G_impl_putFiles (k + 1)) m fi_impl_putFiles.code none (retK G_impl_putFiles fi_impl_putFiles) (enter fi_impl_putFiles [.one (c1), .one (c2)] H) = impl_putFiles (k + 1) m c1 c2 H := by
  simp only [impl_putFiles, ← impl_putFiles_l0_eq k m]
  kernel_rfl
theorem impl_putFiles_eq (k : Nat) (c1 : Cell) (c2 : Cell) (H : List Entry) : evF G_impl_putFiles (k + 2) fid_impl_putFiles [.one (c1), .one (c2)] H = impl_putFiles (k + 1) (k + 1) c1 c2 H :=
  Eq.trans (by kernel_rfl) (impl_putFiles_code k (k + 1) c1 c2 H)
theorem run_impl_putFiles_of {c1 : Cell} {c2 : Cell} {H : List Entry} {r : Res} (k : Nat) (h : impl_putFiles (k + 1) (k + 1) c1 c2 H = some r) : run_impl_putFiles [.one (c1), .one (c2)] H = some r := lim_of ((impl_putFiles_eq k c1 c2 H).trans h)
noncomputable def pl_impl_PutMade : List (Nat × Run) := [(fid_impl_putFiles, run_impl_putFiles), (fid_impl_putText, run_impl_putText)]
noncomputable def G_impl_PutMade : Ctx := ctx tyTab fiTab pl_impl_PutMade
noncomputable def run_impl_PutMade : Run := lim G_impl_PutMade fid_impl_PutMade
theorem ok_impl_PutMade : FnOk Tryd.prog OkT fid_impl_PutMade run_impl_PutMade := lim_ok (l := pl_impl_PutMade) Tryd_mix tyTab_ok fiTab_ok okT (.cons ok_impl_putFiles (.cons ok_impl_putText .nil)) fid_impl_PutMade
noncomputable def impl_PutMade_l0 (k m : Nat) : Nat → Cell → Int → Cell → Int → Int → List Entry → Option Res
  | 0, _, _, _, _, _, _ => none
  | n + 1, c11, i12, c13, i14, i15, H16 =>
    cond (decide (i15 < i14))
    ((idxA 1 (c13) i15).bind fun c17 =>
    (deref H16 (c17)).bind fun p18 =>
    (cI .u8 p18.1 p18.2).bind fun i19 =>
    impl_PutMade_l0 k m n (c11) (IntKind.i64.wrap (i12 + (IntKind.i64.wrap i19))) (c13) i14 (IntKind.i64.wrap (i15 + 1)) H16)
    ((app H16 1 1 (c11) [[.sc (.int .u8 (IntKind.u8.wrap (shrI .i64 i12 8)))], [.sc (.int .u8 (IntKind.u8.wrap i12))]]).bind fun p20 =>
    some ([.one (p20.1)], p20.2))
noncomputable def impl_PutMade (k m : Nat) (s1 : ByteArray) (c2 : Cell) (s3 : ByteArray) : Option Res :=
  (run_impl_putText [.one (.lst true 1 []), .one (Cell.str s1)] []).bind fun r4 =>
  cond (shapeOk rk_impl_putText r4.1)
  ((cC (cellsAt r4.1 0) 0).bind fun c5 =>
  (run_impl_putText [.one (c5), .one (Cell.str s3)] r4.2).bind fun r6 =>
  cond (shapeOk rk_impl_putText r6.1)
  ((cC (cellsAt r6.1 0) 0).bind fun c7 =>
  (run_impl_putFiles [.one (c7), .one (c2)] r6.2).bind fun r8 =>
  cond (shapeOk rk_impl_putFiles r8.1)
  ((cC (cellsAt r8.1 0) 0).bind fun c9 =>
  (lenC c9).bind fun n10 =>
  impl_PutMade_l0 k m m (c9) 0 (c9) (n10 : Int) 0 r8.2)
  none)
  none)
  none
noncomputable abbrev impl_PutMade_l0_B (k m : Nat) : (Ex → Fr → Option Res) → Fr → Option Res := evC G_impl_PutMade fi_impl_PutMade (evF G_impl_PutMade (k + 1)) m (sub [1, 1, 1, 0, 1, 2, 3] fi_impl_PutMade.code) none
noncomputable abbrev impl_PutMade_l0_K (k m : Nat) : Ex → Fr → Option Res := blockK 0 (seqK (evC G_impl_PutMade fi_impl_PutMade (evF G_impl_PutMade (k + 1)) m (sub [1, 1, 1, 1] fi_impl_PutMade.code) none) (retK G_impl_PutMade fi_impl_PutMade))
theorem impl_PutMade_l0_eq (k m : Nat) : ∀ (n : Nat) (c11 : Cell) (i12 : Int) (c13 : Cell) (i14 : Int) (i15 : Int) (H16 : List Entry), loopK (some [3, 4, 16, 17, 18]) (impl_PutMade_l0_B k m) (impl_PutMade_l0_K k m) n ⟨fT 35 0 [(3, .av (.one (c11))), (4, .av (.one (Cell.int i12))), (16, .av (.one (c13))), (17, .av (.one (Cell.int i14))), (18, .av (.one (Cell.int i15)))], fX 35 0 [], H16⟩ = impl_PutMade_l0 (k + 1) m n c11 i12 c13 i14 i15 H16 := by
  intro n
  induction n with
  | zero => intros; rfl
  | succ n ih =>
    intros
    simp only [impl_PutMade_l0, ← ih]
    kernel_rfl
theorem impl_PutMade_code (k m : Nat) (s1 : ByteArray) (c2 : Cell) (s3 : ByteArray) : evC G_impl_PutMade fi_impl_PutMade (evF G_impl_PutMade (k + 1)) m fi_impl_PutMade.code none (retK G_impl_PutMade fi_impl_PutMade) (enter fi_impl_PutMade [.agg [Cell.str s1, c2, Cell.str s3]] []) = impl_PutMade (k + 1) m s1 c2 s3 := by
  simp only [impl_PutMade, ← impl_PutMade_l0_eq k m]
  kernel_rfl
theorem impl_PutMade_eq (k : Nat) (s1 : ByteArray) (c2 : Cell) (s3 : ByteArray) : evF G_impl_PutMade (k + 2) fid_impl_PutMade [.agg [Cell.str s1, c2, Cell.str s3]] [] = impl_PutMade (k + 1) (k + 1) s1 c2 s3 :=
  Eq.trans (by kernel_rfl) (impl_PutMade_code k (k + 1) s1 c2 s3)
theorem run_impl_PutMade_of {s1 : ByteArray} {c2 : Cell} {s3 : ByteArray} {r : Res} (k : Nat) (h : impl_PutMade (k + 1) (k + 1) s1 c2 s3 = some r) : run_impl_PutMade [.agg [Cell.str s1, c2, Cell.str s3]] [] = some r := lim_of ((impl_PutMade_eq k s1 c2 s3).trans h)
noncomputable def pl_impl_GetText : List (Nat × Run) := []
noncomputable def G_impl_GetText : Ctx := ctx tyTab fiTab pl_impl_GetText
noncomputable def run_impl_GetText : Run := lim G_impl_GetText fid_impl_GetText
theorem ok_impl_GetText : FnOk Tryd.prog OkT fid_impl_GetText run_impl_GetText := lim_ok (l := pl_impl_GetText) Tryd_mix tyTab_ok fiTab_ok okT .nil fid_impl_GetText
noncomputable def impl_GetText (k m : Nat) (c1 : Cell) (i2 : Int) : Option Res :=
  cond (decide (i2 < 0))
  (some ([.one (Cell.str (bs [])), .one (Cell.int 0), .one (Cell.bool false)], []))
  ((lenC c1).bind fun n3 =>
  cond (decide (i2 > (IntKind.i64.wrap ((n3 : Int) - 2))))
  (some ([.one (Cell.str (bs [])), .one (Cell.int 0), .one (Cell.bool false)], []))
  ((idxA 1 (c1) i2).bind fun c4 =>
  (deref [] (c4)).bind fun p5 =>
  (cI .u8 p5.1 p5.2).bind fun i6 =>
  (idxA 1 (c1) (IntKind.i64.wrap (i2 + 1))).bind fun c7 =>
  (deref [] (c7)).bind fun p8 =>
  (cI .u8 p8.1 p8.2).bind fun i9 =>
  cond (decide ((orI .i64 (shlI .i64 (IntKind.i64.wrap i6) 8) (IntKind.i64.wrap i9)) > 60000))
  (some ([.one (Cell.str (bs [])), .one (Cell.int 0), .one (Cell.bool false)], []))
  ((lenC c1).bind fun n10 =>
  cond (decide ((orI .i64 (shlI .i64 (IntKind.i64.wrap i6) 8) (IntKind.i64.wrap i9)) > (IntKind.i64.wrap ((n10 : Int) - (IntKind.i64.wrap (i2 + 2))))))
  (some ([.one (Cell.str (bs [])), .one (Cell.int 0), .one (Cell.bool false)], []))
  ((slcC 1 (c1) (IntKind.i64.wrap (i2 + 2)) (some (IntKind.i64.wrap ((IntKind.i64.wrap (i2 + 2)) + (orI .i64 (shlI .i64 (IntKind.i64.wrap i6) 8) (IntKind.i64.wrap i9))))) none).bind fun c11 =>
  (bytesOf [] (c11)).bind fun s12 =>
  some ([.one (Cell.str s12), .one (Cell.int (IntKind.i64.wrap ((IntKind.i64.wrap (i2 + 2)) + (orI .i64 (shlI .i64 (IntKind.i64.wrap i6) 8) (IntKind.i64.wrap i9))))), .one (Cell.bool true)], [])))))
theorem impl_GetText_code (k m : Nat) (c1 : Cell) (i2 : Int) : evC G_impl_GetText fi_impl_GetText (evF G_impl_GetText (k + 1)) m fi_impl_GetText.code none (retK G_impl_GetText fi_impl_GetText) (enter fi_impl_GetText [.one (c1), .one (Cell.int i2)] []) = impl_GetText (k + 1) m c1 i2 := by
  kernel_rfl
theorem impl_GetText_eq (k : Nat) (c1 : Cell) (i2 : Int) : evF G_impl_GetText (k + 2) fid_impl_GetText [.one (c1), .one (Cell.int i2)] [] = impl_GetText (k + 1) (k + 1) c1 i2 :=
  Eq.trans (by kernel_rfl) (impl_GetText_code k (k + 1) c1 i2)
theorem run_impl_GetText_of {c1 : Cell} {i2 : Int} {r : Res} (k : Nat) (h : impl_GetText (k + 1) (k + 1) c1 i2 = some r) : run_impl_GetText [.one (c1), .one (Cell.int i2)] [] = some r := lim_of ((impl_GetText_eq k c1 i2).trans h)
end Go.Ev
