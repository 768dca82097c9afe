/- What the evaluator says of the functions, each as a Lean function over cells. Printed by a program of this claim. Conditions: none. -/
import Derived.Test.YtiocamjonchabaaDoorEvPr
import Derived.KernelRfl
namespace Go.Ev
open Go Go.Proofs
set_option maxRecDepth 100000
set_option linter.unusedVariables false
set_option linter.unusedSimpArgs false
noncomputable def pl_laws_szFile : List (Nat × Run) := []
noncomputable def G_laws_szFile : Ctx := ctx tyTab fiTab pl_laws_szFile
noncomputable def run_laws_szFile : Run := lim G_laws_szFile fid_laws_szFile
theorem ok_laws_szFile : FnOk Tryd.prog OkT fid_laws_szFile run_laws_szFile := lim_ok (l := pl_laws_szFile) Tryd_mix tyTab_ok fiTab_ok okT .nil fid_laws_szFile
noncomputable def laws_szFile (k m : Nat) (s1 : ByteArray) (s2 : ByteArray) (i3 : Int) : Option Res :=
  cond (decide ((IntKind.i64.wrap (i3 - (s1.size : Int))) < 0))
  (some ([.one (Cell.int (-1))], []))
  (cond (decide ((IntKind.i64.wrap ((IntKind.i64.wrap (i3 - (s1.size : Int))) - (s2.size : Int))) < 0))
  (some ([.one (Cell.int (-1))], []))
  (some ([.one (Cell.int (IntKind.i64.wrap ((IntKind.i64.wrap (i3 - (s1.size : Int))) - (s2.size : Int))))], [])))
theorem laws_szFile_code (k m : Nat) (s1 : ByteArray) (s2 : ByteArray) (i3 : Int) : evC G_laws_szFile fi_laws_szFile (evF G_laws_szFile (k + 1)) m fi_laws_szFile.code none (retK G_laws_szFile fi_laws_szFile) (enter fi_laws_szFile [.agg [Cell.str s1, Cell.str s2], .one (Cell.int i3)] []) = laws_szFile (k + 1) m s1 s2 i3 := by
  kernel_rfl
theorem laws_szFile_eq (k : Nat) (s1 : ByteArray) (s2 : ByteArray) (i3 : Int) : evF G_laws_szFile (k + 2) fid_laws_szFile [.agg [Cell.str s1, Cell.str s2], .one (Cell.int i3)] [] = laws_szFile (k + 1) (k + 1) s1 s2 i3 :=
  Eq.trans (by kernel_rfl) (laws_szFile_code k (k + 1) s1 s2 i3)
theorem run_laws_szFile_of {s1 : ByteArray} {s2 : ByteArray} {i3 : Int} {r : Res} (k : Nat) (h : laws_szFile (k + 1) (k + 1) s1 s2 i3 = some r) : run_laws_szFile [.agg [Cell.str s1, Cell.str s2], .one (Cell.int i3)] [] = some r := lim_of ((laws_szFile_eq k s1 s2 i3).trans h)
noncomputable def pl_laws_szFileS : List (Nat × Run) := [(fid_laws_szFile, run_laws_szFile)]
noncomputable def G_laws_szFileS : Ctx := ctx tyTab fiTab pl_laws_szFileS
noncomputable def run_laws_szFileS : Run := lim G_laws_szFileS fid_laws_szFileS
theorem ok_laws_szFileS : FnOk Tryd.prog OkT fid_laws_szFileS run_laws_szFileS := lim_ok (l := pl_laws_szFileS) Tryd_mix tyTab_ok fiTab_ok okT (.cons ok_laws_szFile .nil) fid_laws_szFileS
noncomputable def laws_szFileS_l0 (k m : Nat) : Nat → Cell → Int → Int → Option Res
  | 0, _, _, _ => none
  | n + 1, c4, i5, i6 =>
    (lenC c4).bind fun n7 =>
    cond (decide (i6 < (n7 : Int)))
    ((idxA 2 (c4) i6).bind fun c8 =>
    (deref [] (c8)).bind fun p9 =>
    (cS p9.1 p9.2).bind fun s10 =>
    (cS p9.1 (p9.2 + 1)).bind fun s11 =>
    (callS run_laws_szFile [.agg [Cell.str s10, Cell.str s11], .one (Cell.int i5)] []).bind fun r12 =>
    cond (shapeOk rk_laws_szFile r12)
    ((cI .i64 (cellsAt r12 0) 0).bind fun i13 =>
    cond (decide (i13 < 0))
    (some ([.one (Cell.int (-1))], []))
    (laws_szFileS_l0 k m n (c4) i13 (IntKind.i64.wrap (i6 + 1))))
    none)
    (some ([.one (Cell.int i5)], []))
noncomputable def laws_szFileS (k m : Nat) (c1 : Cell) (i2 : Int) : Option Res :=
  (lenC c1).bind fun n3 =>
  cond (decide ((IntKind.i64.wrap (i2 - (n3 : Int))) < 0))
  (some ([.one (Cell.int (-1))], []))
  (laws_szFileS_l0 k m m (c1) (IntKind.i64.wrap (i2 - (n3 : Int))) 0)
noncomputable abbrev laws_szFileS_l0_B (k m : Nat) : (Ex → Fr → Option Res) → Fr → Option Res := evC G_laws_szFileS fi_laws_szFileS (evF G_laws_szFileS (k + 1)) m (sub [1, 1, 1, 0, 1, 2, 3] fi_laws_szFileS.code) none
noncomputable abbrev laws_szFileS_l0_K (k m : Nat) : Ex → Fr → Option Res := blockK 0 (seqK (evC G_laws_szFileS fi_laws_szFileS (evF G_laws_szFileS (k + 1)) m (sub [1, 1, 1, 1] fi_laws_szFileS.code) none) (retK G_laws_szFileS fi_laws_szFileS))
theorem laws_szFileS_l0_eq (k m : Nat) : ∀ (n : Nat) (c4 : Cell) (i5 : Int) (i6 : Int), loopK (some [0, 1, 5]) (laws_szFileS_l0_B k m) (laws_szFileS_l0_K k m) n ⟨fT 27 0 [(0, .av (.one (c4))), (1, .av (.one (Cell.int i5))), (5, .av (.one (Cell.int i6)))], fX 27 0 [], []⟩ = laws_szFileS_l0 (k + 1) m n c4 i5 i6 := by
  intro n
  induction n with
  | zero => intros; rfl
  | succ n ih =>
    intros
    simp only [laws_szFileS_l0, ← ih]
    kernel_rfl
theorem laws_szFileS_code (k m : Nat) (c1 : Cell) (i2 : Int) : evC G_laws_szFileS fi_laws_szFileS (evF G_laws_szFileS (k + 1)) m fi_laws_szFileS.code none (retK G_laws_szFileS fi_laws_szFileS) (enter fi_laws_szFileS [.one (c1), .one (Cell.int i2)] []) = laws_szFileS (k + 1) m c1 i2 := by
  simp only [laws_szFileS, ← laws_szFileS_l0_eq k m]
  kernel_rfl
theorem laws_szFileS_eq (k : Nat) (c1 : Cell) (i2 : Int) : evF G_laws_szFileS (k + 2) fid_laws_szFileS [.one (c1), .one (Cell.int i2)] [] = laws_szFileS (k + 1) (k + 1) c1 i2 :=
  Eq.trans (by kernel_rfl) (laws_szFileS_code k (k + 1) c1 i2)
theorem run_laws_szFileS_of {c1 : Cell} {i2 : Int} {r : Res} (k : Nat) (h : laws_szFileS (k + 1) (k + 1) c1 i2 = some r) : run_laws_szFileS [.one (c1), .one (Cell.int i2)] [] = some r := lim_of ((laws_szFileS_eq k c1 i2).trans h)
noncomputable def pl_laws_szMade : List (Nat × Run) := [(fid_laws_szFileS, run_laws_szFileS)]
noncomputable def G_laws_szMade : Ctx := ctx tyTab fiTab pl_laws_szMade
noncomputable def run_laws_szMade : Run := lim G_laws_szMade fid_laws_szMade
theorem ok_laws_szMade : FnOk Tryd.prog OkT fid_laws_szMade run_laws_szMade := lim_ok (l := pl_laws_szMade) Tryd_mix tyTab_ok fiTab_ok okT (.cons ok_laws_szFileS .nil) fid_laws_szMade
noncomputable def laws_szMade (k m : Nat) (s1 : ByteArray) (c2 : Cell) (s3 : ByteArray) (i4 : Int) : Option Res :=
  cond (decide ((IntKind.i64.wrap (i4 - (s1.size : Int))) < 0))
  (some ([.one (Cell.int (-1))], []))
  ((callS run_laws_szFileS [.one (c2), .one (Cell.int (IntKind.i64.wrap (i4 - (s1.size : Int))))] []).bind fun r5 =>
  cond (shapeOk rk_laws_szFileS r5)
  ((cI .i64 (cellsAt r5 0) 0).bind fun i6 =>
  cond (decide (i6 < 0))
  (some ([.one (Cell.int (-1))], []))
  (cond (decide ((IntKind.i64.wrap (i6 - (s3.size : Int))) < 0))
  (some ([.one (Cell.int (-1))], []))
  (some ([.one (Cell.int (IntKind.i64.wrap (i6 - (s3.size : Int))))], []))))
  none)
theorem laws_szMade_code (k m : Nat) (s1 : ByteArray) (c2 : Cell) (s3 : ByteArray) (i4 : Int) : evC G_laws_szMade fi_laws_szMade (evF G_laws_szMade (k + 1)) m fi_laws_szMade.code none (retK G_laws_szMade fi_laws_szMade) (enter fi_laws_szMade [.agg [Cell.str s1, c2, Cell.str s3], .one (Cell.int i4)] []) = laws_szMade (k + 1) m s1 c2 s3 i4 := by
  kernel_rfl
theorem laws_szMade_eq (k : Nat) (s1 : ByteArray) (c2 : Cell) (s3 : ByteArray) (i4 : Int) : evF G_laws_szMade (k + 2) fid_laws_szMade [.agg [Cell.str s1, c2, Cell.str s3], .one (Cell.int i4)] [] = laws_szMade (k + 1) (k + 1) s1 c2 s3 i4 :=
  Eq.trans (by kernel_rfl) (laws_szMade_code k (k + 1) s1 c2 s3 i4)
theorem run_laws_szMade_of {s1 : ByteArray} {c2 : Cell} {s3 : ByteArray} {i4 : Int} {r : Res} (k : Nat) (h : laws_szMade (k + 1) (k + 1) s1 c2 s3 i4 = some r) : run_laws_szMade [.agg [Cell.str s1, c2, Cell.str s3], .one (Cell.int i4)] [] = some r := lim_of ((laws_szMade_eq k s1 c2 s3 i4).trans h)
noncomputable def pl_spec_PutText : List (Nat × Run) := []
noncomputable def G_spec_PutText : Ctx := ctx tyTab fiTab pl_spec_PutText
noncomputable def run_spec_PutText : Run := lim G_spec_PutText fid_spec_PutText
theorem ok_spec_PutText : FnOk Tryd.prog OkT fid_spec_PutText run_spec_PutText := lim_ok (l := pl_spec_PutText) Tryd_mix tyTab_ok fiTab_ok okT .nil fid_spec_PutText
noncomputable def spec_PutText (k m : Nat) (c1 : Cell) (s2 : ByteArray) : Option Res :=
  (srcRows [] 1 c1).bind fun r3 =>
  (app [] 1 1 (.lst true 1 []) r3).bind fun p4 =>
  cond (decide ((s2.size : Int) > 60000))
  (some ([.one (p4.1)], p4.2))
  ((app p4.2 1 1 (p4.1) [[.sc (.int .u8 (IntKind.u8.wrap (shrI .i64 (s2.size : Int) 8)))], [.sc (.int .u8 (IntKind.u8.wrap (s2.size : Int)))]]).bind fun p5 =>
  (app p5.2 1 1 (p5.1) (byteRows s2)).bind fun p6 =>
  some ([.one (p6.1)], p6.2))
theorem spec_PutText_code (k m : Nat) (c1 : Cell) (s2 : ByteArray) : evC G_spec_PutText fi_spec_PutText (evF G_spec_PutText (k + 1)) m fi_spec_PutText.code none (retK G_spec_PutText fi_spec_PutText) (enter fi_spec_PutText [.one (c1), .one (Cell.str s2)] []) = spec_PutText (k + 1) m c1 s2 := by
  kernel_rfl
theorem spec_PutText_eq (k : Nat) (c1 : Cell) (s2 : ByteArray) : evF G_spec_PutText (k + 2) fid_spec_PutText [.one (c1), .one (Cell.str s2)] [] = spec_PutText (k + 1) (k + 1) c1 s2 :=
  Eq.trans (by kernel_rfl) (spec_PutText_code k (k + 1) c1 s2)
theorem run_spec_PutText_of {c1 : Cell} {s2 : ByteArray} {r : Res} (k : Nat) (h : spec_PutText (k + 1) (k + 1) c1 s2 = some r) : run_spec_PutText [.one (c1), .one (Cell.str s2)] [] = some r := lim_of ((spec_PutText_eq k c1 s2).trans h)
noncomputable def pl_spec_NumText : List (Nat × Run) := []
noncomputable def G_spec_NumText : Ctx := ctx tyTab fiTab pl_spec_NumText
noncomputable def run_spec_NumText : Run := lim G_spec_NumText fid_spec_NumText
theorem ok_spec_NumText : FnOk Tryd.prog OkT fid_spec_NumText run_spec_NumText := lim_ok (l := pl_spec_NumText) Tryd_mix tyTab_ok fiTab_ok okT .nil fid_spec_NumText
noncomputable def spec_NumText_l1 (k m : Nat) : Nat → Int → ByteArray → Option Res
  | 0, _, _ => none
  | n + 1, i5, s6 =>
    cond (decide (i5 > 9))
    ((bytesOf [] (.lst true 1 [[.sc (.int .u8 (IntKind.u8.wrap (IntKind.i64.wrap (48 + ((IntKind.i64.wrap (i5.tdiv 10)).tmod 10)))))]])).bind fun s7 =>
    (catS s7 s6).bind fun s8 =>
    spec_NumText_l1 k m n (IntKind.i64.wrap (i5.tdiv 10)) s8)
    (some ([.one (Cell.str s6)], []))
noncomputable def spec_NumText_l0 (k m : Nat) : Nat → ByteArray → Option Res
  | 0, _ => none
  | n + 1, s3 =>
    some ([.one (Cell.str s3)], [])
noncomputable def spec_NumText (k m : Nat) (i1 : Int) : Option Res :=
  cond (decide (i1 < 0))
  ((bytesOf [] (.lst true 1 [[.sc (.int .u8 (IntKind.u8.wrap (IntKind.i64.wrap (48 + ((0 : Int).tmod 10)))))]])).bind fun s2 =>
  spec_NumText_l0 k m m s2)
  ((bytesOf [] (.lst true 1 [[.sc (.int .u8 (IntKind.u8.wrap (IntKind.i64.wrap (48 + (i1.tmod 10)))))]])).bind fun s4 =>
  spec_NumText_l1 k m m i1 s4)
noncomputable abbrev spec_NumText_l0_B (k m : Nat) : (Ex → Fr → Option Res) → Fr → Option Res := evC G_spec_NumText fi_spec_NumText (evF G_spec_NumText (k + 1)) m (sub [1, 1, 1, 0, 2, 3] fi_spec_NumText.code) none
noncomputable abbrev spec_NumText_l0_K (k m : Nat) : Ex → Fr → Option Res := blockK 0 (seqK (evC G_spec_NumText fi_spec_NumText (evF G_spec_NumText (k + 1)) m (sub [1, 1, 1, 1] fi_spec_NumText.code) none) (retK G_spec_NumText fi_spec_NumText))
noncomputable abbrev spec_NumText_l1_B (k m : Nat) : (Ex → Fr → Option Res) → Fr → Option Res := evC G_spec_NumText fi_spec_NumText (evF G_spec_NumText (k + 1)) m (sub [1, 1, 1, 0, 2, 3] fi_spec_NumText.code) none
noncomputable abbrev spec_NumText_l1_K (k m : Nat) : Ex → Fr → Option Res := blockK 0 (seqK (evC G_spec_NumText fi_spec_NumText (evF G_spec_NumText (k + 1)) m (sub [1, 1, 1, 1] fi_spec_NumText.code) none) (retK G_spec_NumText fi_spec_NumText))
theorem spec_NumText_l1_eq (k m : Nat) : ∀ (n : Nat) (i5 : Int) (s6 : ByteArray), loopK (some [0, 3]) (spec_NumText_l0_B k m) (spec_NumText_l0_K k m) n ⟨fT 25 0 [(0, .av (.one (Cell.int i5))), (3, .av (.one (Cell.str s6)))], fX 25 0 [], []⟩ = spec_NumText_l1 (k + 1) m n i5 s6 := by
  intro n
  induction n with
  | zero => intros; rfl
  | succ n ih =>
    intros
    simp only [spec_NumText_l1, ← ih]
    kernel_rfl
theorem spec_NumText_l0_eq (k m : Nat) : ∀ (n : Nat) (s3 : ByteArray), loopK (some [0, 3]) (spec_NumText_l0_B k m) (spec_NumText_l0_K k m) n ⟨fT 25 0 [(0, .av (.one (Cell.int 0))), (3, .av (.one (Cell.str s3)))], fX 25 0 [], []⟩ = spec_NumText_l0 (k + 1) m n s3 := by
  intro n
  induction n with
  | zero => intros; rfl
  | succ n ih =>
    intros
    simp only [spec_NumText_l0]
    kernel_rfl
theorem spec_NumText_code (k m : Nat) (i1 : Int) : evC G_spec_NumText fi_spec_NumText (evF G_spec_NumText (k + 1)) m fi_spec_NumText.code none (retK G_spec_NumText fi_spec_NumText) (enter fi_spec_NumText [.one (Cell.int i1)] []) = spec_NumText (k + 1) m i1 := by
  simp only [spec_NumText, ← spec_NumText_l0_eq k m, ← spec_NumText_l1_eq k m]
  kernel_rfl
theorem spec_NumText_eq (k : Nat) (i1 : Int) : evF G_spec_NumText (k + 2) fid_spec_NumText [.one (Cell.int i1)] [] = spec_NumText (k + 1) (k + 1) i1 :=
  Eq.trans (by kernel_rfl) (spec_NumText_code k (k + 1) i1)
theorem run_spec_NumText_of {i1 : Int} {r : Res} (k : Nat) (h : spec_NumText (k + 1) (k + 1) i1 = some r) : run_spec_NumText [.one (Cell.int i1)] [] = some r := lim_of ((spec_NumText_eq k i1).trans h)
noncomputable def pl_spec_l16Count : List (Nat × Run) := [(fid_spec_PutText, run_spec_PutText), (fid_spec_NumText, run_spec_NumText)]
noncomputable def G_spec_l16Count : Ctx := ctx tyTab fiTab pl_spec_l16Count
noncomputable def run_spec_l16Count : Run := lim G_spec_l16Count fid_spec_l16Count
theorem ok_spec_l16Count : FnOk Tryd.prog OkT fid_spec_l16Count run_spec_l16Count := lim_ok (l := pl_spec_l16Count) Tryd_mix tyTab_ok fiTab_ok okT (.cons ok_spec_PutText (.cons ok_spec_NumText .nil)) fid_spec_l16Count
noncomputable def spec_l16Count (k m : Nat) (c1 : Cell) (i2 : Int) : Option Res :=
  (callS run_spec_NumText [.one (Cell.int i2)] []).bind fun r3 =>
  cond (shapeOk rk_spec_NumText r3)
  ((cS (cellsAt r3 0) 0).bind fun s4 =>
  (callF run_spec_PutText [.one (c1), .one (Cell.str s4)] []).bind fun r5 =>
  cond (shapeOk rk_spec_PutText r5.1)
  ((cC (cellsAt r5.1 0) 0).bind fun c6 =>
  some ([.one (c6)], r5.2))
  none)
  none
theorem spec_l16Count_code (k m : Nat) (c1 : Cell) (i2 : Int) : evC G_spec_l16Count fi_spec_l16Count (evF G_spec_l16Count (k + 1)) m fi_spec_l16Count.code none (retK G_spec_l16Count fi_spec_l16Count) (enter fi_spec_l16Count [.one (c1), .one (Cell.int i2)] []) = spec_l16Count (k + 1) m c1 i2 := by
  kernel_rfl
theorem spec_l16Count_eq (k : Nat) (c1 : Cell) (i2 : Int) : evF G_spec_l16Count (k + 2) fid_spec_l16Count [.one (c1), .one (Cell.int i2)] [] = spec_l16Count (k + 1) (k + 1) c1 i2 :=
  Eq.trans (by kernel_rfl) (spec_l16Count_code k (k + 1) c1 i2)
theorem run_spec_l16Count_of {c1 : Cell} {i2 : Int} {r : Res} (k : Nat) (h : spec_l16Count (k + 1) (k + 1) c1 i2 = some r) : run_spec_l16Count [.one (c1), .one (Cell.int i2)] [] = some r := lim_of ((spec_l16Count_eq k c1 i2).trans h)
noncomputable def pl_spec_l16Files : List (Nat × Run) := [(fid_spec_PutText, run_spec_PutText), (fid_spec_l16Count, run_spec_l16Count)]
noncomputable def G_spec_l16Files : Ctx := ctx tyTab fiTab pl_spec_l16Files
noncomputable def run_spec_l16Files : Run := lim G_spec_l16Files fid_spec_l16Files
theorem ok_spec_l16Files : FnOk Tryd.prog OkT fid_spec_l16Files run_spec_l16Files := lim_ok (l := pl_spec_l16Files) Tryd_mix tyTab_ok fiTab_ok okT (.cons ok_spec_PutText (.cons ok_spec_l16Count .nil)) fid_spec_l16Files
noncomputable def spec_l16Files_l0 (k m : Nat) : Nat → Cell → Cell → Int → List Entry → Option Res
  | 0, _, _, _, _ => none
  | n + 1, c6, c7, i8, H9 =>
    (lenC c7).bind fun n10 =>
    cond (decide (i8 < (n10 : Int)))
    ((idxA 2 (c7) i8).bind fun c11 =>
    (fldA c11 0).bind fun c12 =>
    (deref H9 (c12)).bind fun p13 =>
    (cS p13.1 p13.2).bind fun s14 =>
    (callF run_spec_PutText [.one (c6), .one (Cell.str s14)] H9).bind fun r15 =>
    cond (shapeOk rk_spec_PutText r15.1)
    ((cC (cellsAt r15.1 0) 0).bind fun c16 =>
    (idxA 2 (c7) i8).bind fun c17 =>
    (fldA c17 1).bind fun c18 =>
    (deref [] (c18)).bind fun p19 =>
    (cS p19.1 p19.2).bind fun s20 =>
    (callF run_spec_PutText [.one (c16), .one (Cell.str s20)] r15.2).bind fun r21 =>
    cond (shapeOk rk_spec_PutText r21.1)
    ((cC (cellsAt r21.1 0) 0).bind fun c22 =>
    spec_l16Files_l0 k m n (c22) (c7) (IntKind.i64.wrap (i8 + 1)) r21.2)
    none)
    none)
    (some ([.one (c6)], H9))
noncomputable def spec_l16Files (k m : Nat) (c1 : Cell) (c2 : Cell) : Option Res :=
  (lenC c2).bind fun n3 =>
  (callF run_spec_l16Count [.one (c1), .one (Cell.int (n3 : Int))] []).bind fun r4 =>
  cond (shapeOk rk_spec_l16Count r4.1)
  ((cC (cellsAt r4.1 0) 0).bind fun c5 =>
  spec_l16Files_l0 k m m (c5) (c2) 0 r4.2)
  none
noncomputable abbrev spec_l16Files_l0_B (k m : Nat) : (Ex → Fr → Option Res) → Fr → Option Res := evC G_spec_l16Files fi_spec_l16Files (evF G_spec_l16Files (k + 1)) m (sub [1, 1, 0, 1, 2, 3] fi_spec_l16Files.code) none
noncomputable abbrev spec_l16Files_l0_K (k m : Nat) : Ex → Fr → Option Res := blockK 0 (seqK (evC G_spec_l16Files fi_spec_l16Files (evF G_spec_l16Files (k + 1)) m (sub [1, 1, 1] fi_spec_l16Files.code) none) (retK G_spec_l16Files fi_spec_l16Files))
theorem spec_l16Files_l0_eq (k m : Nat) : ∀ (n : Nat) (c6 : Cell) (c7 : Cell) (i8 : Int) (H9 : List Entry), loopK (some [0, 1, 5]) (spec_l16Files_l0_B k m) (spec_l16Files_l0_K k m) n ⟨fT 30 0 [(0, .av (.one (c6))), (1, .av (.one (c7))), (5, .av (.one (Cell.int i8)))], fX 30 0 [], H9⟩ = spec_l16Files_l0 (k + 1) m n c6 c7 i8 H9 := by
  intro n
  induction n with
  | zero => intros; rfl
  | succ n ih =>
    intros
    simp only [spec_l16Files_l0, ← ih]
    kernel_rfl
theorem spec_l16Files_code (k m : Nat) (c1 : Cell) (c2 : Cell) : evC G_spec_l16Files fi_spec_l16Files (evF G_spec_l16Files (k + 1)) m fi_spec_l16Files.code none (retK G_spec_l16Files fi_spec_l16Files) (enter fi_spec_l16Files [.one (c1), .one (c2)] []) = spec_l16Files (k + 1) m c1 c2 := by
  simp only [spec_l16Files, ← spec_l16Files_l0_eq k m]
  kernel_rfl
theorem spec_l16Files_eq (k : Nat) (c1 : Cell) (c2 : Cell) : evF G_spec_l16Files (k + 2) fid_spec_l16Files [.one (c1), .one (c2)] [] = spec_l16Files (k + 1) (k + 1) c1 c2 :=
  Eq.trans (by kernel_rfl) (spec_l16Files_code k (k + 1) c1 c2)
theorem run_spec_l16Files_of {c1 : Cell} {c2 : Cell} {r : Res} (k : Nat) (h : spec_l16Files (k + 1) (k + 1) c1 c2 = some r) : run_spec_l16Files [.one (c1), .one (c2)] [] = some r := lim_of ((spec_l16Files_eq k c1 c2).trans h)
noncomputable def pl_spec_l17Sum : List (Nat × Run) := []
noncomputable def G_spec_l17Sum : Ctx := ctx tyTab fiTab pl_spec_l17Sum
noncomputable def run_spec_l17Sum : Run := lim G_spec_l17Sum fid_spec_l17Sum
theorem ok_spec_l17Sum : FnOk Tryd.prog OkT fid_spec_l17Sum run_spec_l17Sum := lim_ok (l := pl_spec_l17Sum) Tryd_mix tyTab_ok fiTab_ok okT .nil fid_spec_l17Sum
noncomputable def spec_l17Sum_l0 (k m : Nat) : Nat → Cell → Int → Int → Option Res
  | 0, _, _, _ => none
  | n + 1, c2, i3, i4 =>
    (lenC c2).bind fun n5 =>
    cond (decide (i4 < (n5 : Int)))
    ((idxA 1 (c2) i4).bind fun c6 =>
    (deref [] (c6)).bind fun p7 =>
    (cI .u8 p7.1 p7.2).bind fun i8 =>
    spec_l17Sum_l0 k m n (c2) ((IntKind.i64.wrap (i3 + (IntKind.i64.wrap i8))).tmod 65536) (IntKind.i64.wrap (i4 + 1)))
    (some ([.one (Cell.int i3)], []))
noncomputable def spec_l17Sum (k m : Nat) (c1 : Cell) : Option Res :=
  spec_l17Sum_l0 k m m (c1) 0 0
noncomputable abbrev spec_l17Sum_l0_B (k m : Nat) : (Ex → Fr → Option Res) → Fr → Option Res := evC G_spec_l17Sum fi_spec_l17Sum (evF G_spec_l17Sum (k + 1)) m (sub [1, 1, 0, 1, 2, 3] fi_spec_l17Sum.code) none
noncomputable abbrev spec_l17Sum_l0_K (k m : Nat) : Ex → Fr → Option Res := blockK 0 (seqK (evC G_spec_l17Sum fi_spec_l17Sum (evF G_spec_l17Sum (k + 1)) m (sub [1, 1, 1] fi_spec_l17Sum.code) none) (retK G_spec_l17Sum fi_spec_l17Sum))
theorem spec_l17Sum_l0_eq (k m : Nat) : ∀ (n : Nat) (c2 : Cell) (i3 : Int) (i4 : Int), loopK (some [0, 3, 4]) (spec_l17Sum_l0_B k m) (spec_l17Sum_l0_K k m) n ⟨fT 20 0 [(0, .av (.one (c2))), (3, .av (.one (Cell.int i3))), (4, .av (.one (Cell.int i4)))], fX 20 0 [], []⟩ = spec_l17Sum_l0 (k + 1) m n c2 i3 i4 := by
  intro n
  induction n with
  | zero => intros; rfl
  | succ n ih =>
    intros
    simp only [spec_l17Sum_l0, ← ih]
    kernel_rfl
theorem spec_l17Sum_code (k m : Nat) (c1 : Cell) : evC G_spec_l17Sum fi_spec_l17Sum (evF G_spec_l17Sum (k + 1)) m fi_spec_l17Sum.code none (retK G_spec_l17Sum fi_spec_l17Sum) (enter fi_spec_l17Sum [.one (c1)] []) = spec_l17Sum (k + 1) m c1 := by
  simp only [spec_l17Sum, ← spec_l17Sum_l0_eq k m]
  kernel_rfl
theorem spec_l17Sum_eq (k : Nat) (c1 : Cell) : evF G_spec_l17Sum (k + 2) fid_spec_l17Sum [.one (c1)] [] = spec_l17Sum (k + 1) (k + 1) c1 :=
  Eq.trans (by kernel_rfl) (spec_l17Sum_code k (k + 1) c1)
theorem run_spec_l17Sum_of {c1 : Cell} {r : Res} (k : Nat) (h : spec_l17Sum (k + 1) (k + 1) c1 = some r) : run_spec_l17Sum [.one (c1)] [] = some r := lim_of ((spec_l17Sum_eq k c1).trans h)
noncomputable def pl_spec_PutMade : List (Nat × Run) := [(fid_spec_l16Files, run_spec_l16Files), (fid_spec_PutText, run_spec_PutText), (fid_spec_l17Sum, run_spec_l17Sum)]
noncomputable def G_spec_PutMade : Ctx := ctx tyTab fiTab pl_spec_PutMade
noncomputable def run_spec_PutMade : Run := lim G_spec_PutMade fid_spec_PutMade
theorem ok_spec_PutMade : FnOk Tryd.prog OkT fid_spec_PutMade run_spec_PutMade := lim_ok (l := pl_spec_PutMade) Tryd_mix tyTab_ok fiTab_ok okT (.cons ok_spec_l16Files (.cons ok_spec_PutText (.cons ok_spec_l17Sum .nil))) fid_spec_PutMade
noncomputable def spec_PutMade (k m : Nat) (s1 : ByteArray) (c2 : Cell) (s3 : ByteArray) : Option Res :=
  (callF run_spec_PutText [.one (.lst true 1 []), .one (Cell.str s1)] []).bind fun r4 =>
  cond (shapeOk rk_spec_PutText r4.1)
  ((cC (cellsAt r4.1 0) 0).bind fun c5 =>
  (callF run_spec_PutText [.one (c5), .one (Cell.str s3)] r4.2).bind fun r6 =>
  cond (shapeOk rk_spec_PutText r6.1)
  ((cC (cellsAt r6.1 0) 0).bind fun c7 =>
  (callF run_spec_l16Files [.one (c7), .one (c2)] r6.2).bind fun r8 =>
  cond (shapeOk rk_spec_l16Files r8.1)
  ((cC (cellsAt r8.1 0) 0).bind fun c9 =>
  (callS run_spec_l17Sum [.one (c9)] r8.2).bind fun r10 =>
  cond (shapeOk rk_spec_l17Sum r10)
  ((cI .i64 (cellsAt r10 0) 0).bind fun i11 =>
  (app r8.2 1 1 (c9) [[.sc (.int .u8 (IntKind.u8.wrap (shrI .i64 i11 8)))], [.sc (.int .u8 (IntKind.u8.wrap i11))]]).bind fun p12 =>
  some ([.one (p12.1)], p12.2))
  none)
  none)
  none)
  none
theorem spec_PutMade_code (k m : Nat) (s1 : ByteArray) (c2 : Cell) (s3 : ByteArray) : evC G_spec_PutMade fi_spec_PutMade (evF G_spec_PutMade (k + 1)) m fi_spec_PutMade.code none (retK G_spec_PutMade fi_spec_PutMade) (enter fi_spec_PutMade [.agg [Cell.str s1, c2, Cell.str s3]] []) = spec_PutMade (k + 1) m s1 c2 s3 := by
  kernel_rfl
theorem spec_PutMade_eq (k : Nat) (s1 : ByteArray) (c2 : Cell) (s3 : ByteArray) : evF G_spec_PutMade (k + 2) fid_spec_PutMade [.agg [Cell.str s1, c2, Cell.str s3]] [] = spec_PutMade (k + 1) (k + 1) s1 c2 s3 :=
  Eq.trans (by kernel_rfl) (spec_PutMade_code k (k + 1) s1 c2 s3)
theorem run_spec_PutMade_of {s1 : ByteArray} {c2 : Cell} {s3 : ByteArray} {r : Res} (k : Nat) (h : spec_PutMade (k + 1) (k + 1) s1 c2 s3 = some r) : run_spec_PutMade [.agg [Cell.str s1, c2, Cell.str s3]] [] = some r := lim_of ((spec_PutMade_eq k s1 c2 s3).trans h)
noncomputable def pl_laws_toFile : List (Nat × Run) := []
noncomputable def G_laws_toFile : Ctx := ctx tyTab fiTab pl_laws_toFile
noncomputable def run_laws_toFile : Run := lim G_laws_toFile fid_laws_toFile
theorem ok_laws_toFile : FnOk Tryd.prog OkT fid_laws_toFile run_laws_toFile := lim_ok (l := pl_laws_toFile) Tryd_mix tyTab_ok fiTab_ok okT .nil fid_laws_toFile
noncomputable def laws_toFile (k m : Nat) (s1 : ByteArray) (s2 : ByteArray) : Option Res :=
  some ([.agg [Cell.str s1, Cell.str s2]], [])
theorem laws_toFile_code (k m : Nat) (s1 : ByteArray) (s2 : ByteArray) : evC G_laws_toFile fi_laws_toFile (evF G_laws_toFile (k + 1)) m fi_laws_toFile.code none (retK G_laws_toFile fi_laws_toFile) (enter fi_laws_toFile [.agg [Cell.str s1, Cell.str s2]] []) = laws_toFile (k + 1) m s1 s2 := by
  kernel_rfl
theorem laws_toFile_eq (k : Nat) (s1 : ByteArray) (s2 : ByteArray) : evF G_laws_toFile (k + 2) fid_laws_toFile [.agg [Cell.str s1, Cell.str s2]] [] = laws_toFile (k + 1) (k + 1) s1 s2 :=
  Eq.trans (by kernel_rfl) (laws_toFile_code k (k + 1) s1 s2)
theorem run_laws_toFile_of {s1 : ByteArray} {s2 : ByteArray} {r : Res} (k : Nat) (h : laws_toFile (k + 1) (k + 1) s1 s2 = some r) : run_laws_toFile [.agg [Cell.str s1, Cell.str s2]] [] = some r := lim_of ((laws_toFile_eq k s1 s2).trans h)
noncomputable def pl_laws_toFileS : List (Nat × Run) := [(fid_laws_toFile, run_laws_toFile)]
noncomputable def G_laws_toFileS : Ctx := ctx tyTab fiTab pl_laws_toFileS
noncomputable def run_laws_toFileS : Run := lim G_laws_toFileS fid_laws_toFileS
theorem ok_laws_toFileS : FnOk Tryd.prog OkT fid_laws_toFileS run_laws_toFileS := lim_ok (l := pl_laws_toFileS) Tryd_mix tyTab_ok fiTab_ok okT (.cons ok_laws_toFile .nil) fid_laws_toFileS
noncomputable def laws_toFileS_l0 (k m : Nat) : Nat → Cell → Cell → Int → List Entry → Option Res
  | 0, _, _, _, _ => none
  | n + 1, c3, c4, i5, H6 =>
    (lenC c3).bind fun n7 =>
    cond (decide (i5 < (n7 : Int)))
    ((idxA 2 (c3) i5).bind fun c8 =>
    (deref H6 (c8)).bind fun p9 =>
    (cS p9.1 p9.2).bind fun s10 =>
    (cS p9.1 (p9.2 + 1)).bind fun s11 =>
    (callF run_laws_toFile [.agg [Cell.str s10, Cell.str s11]] H6).bind fun r12 =>
    cond (shapeOk rk_laws_toFile r12.1)
    ((cS (cellsAt r12.1 0) 0).bind fun s13 =>
    (cS (cellsAt r12.1 0) 1).bind fun s14 =>
    (idxA 2 (c4) i5).bind fun c15 =>
    (hStore r12.2 (c15) [Cell.str s13, Cell.str s14]).bind fun h16 =>
    laws_toFileS_l0 k m n (c3) (c4) (IntKind.i64.wrap (i5 + 1)) h16)
    none)
    (some ([.one (c4)], H6))
noncomputable def laws_toFileS (k m : Nat) (c1 : Cell) : Option Res :=
  (lenC c1).bind fun n2 =>
  if 0 ≤ (n2 : Int) ∧ (n2 : Int) ≤ (n2 : Int) ∧ (n2 : Int) * 32 ≤ bound ∧ (n2 : Int) ≤ bound then
  (laws_toFileS_l0 k m m (c1) ((.vs 0 2 0 (n2 : Int).toNat 0)) 0 [Entry.mk 2 (mkRows (n2 : Int).toNat [Cell.str (bs []), Cell.str (bs [])]) 0 false]) else none
noncomputable abbrev laws_toFileS_l0_B (k m : Nat) : (Ex → Fr → Option Res) → Fr → Option Res := evC G_laws_toFileS fi_laws_toFileS (evF G_laws_toFileS (k + 1)) m (sub [1, 1, 0, 1, 2, 3] fi_laws_toFileS.code) none
noncomputable abbrev laws_toFileS_l0_K (k m : Nat) : Ex → Fr → Option Res := blockK 0 (seqK (evC G_laws_toFileS fi_laws_toFileS (evF G_laws_toFileS (k + 1)) m (sub [1, 1, 1] fi_laws_toFileS.code) none) (retK G_laws_toFileS fi_laws_toFileS))
theorem laws_toFileS_l0_eq (k m : Nat) : ∀ (n : Nat) (c3 : Cell) (c4 : Cell) (i5 : Int) (H6 : List Entry), loopK (some [0, 3, 4]) (laws_toFileS_l0_B k m) (laws_toFileS_l0_K k m) n ⟨fT 23 0 [(0, .av (.one (c3))), (3, .av (.one (c4))), (4, .av (.one (Cell.int i5)))], fX 23 0 [], H6⟩ = laws_toFileS_l0 (k + 1) m n c3 c4 i5 H6 := by
  intro n
  induction n with
  | zero => intros; rfl
  | succ n ih =>
    intros
    simp only [laws_toFileS_l0, ← ih]
    kernel_rfl
theorem laws_toFileS_code (k m : Nat) (c1 : Cell) : evC G_laws_toFileS fi_laws_toFileS (evF G_laws_toFileS (k + 1)) m fi_laws_toFileS.code none (retK G_laws_toFileS fi_laws_toFileS) (enter fi_laws_toFileS [.one (c1)] []) = laws_toFileS (k + 1) m c1 := by
  simp only [laws_toFileS, ← laws_toFileS_l0_eq k m]
  kernel_rfl
theorem laws_toFileS_eq (k : Nat) (c1 : Cell) : evF G_laws_toFileS (k + 2) fid_laws_toFileS [.one (c1)] [] = laws_toFileS (k + 1) (k + 1) c1 :=
  Eq.trans (by kernel_rfl) (laws_toFileS_code k (k + 1) c1)
theorem run_laws_toFileS_of {c1 : Cell} {r : Res} (k : Nat) (h : laws_toFileS (k + 1) (k + 1) c1 = some r) : run_laws_toFileS [.one (c1)] [] = some r := lim_of ((laws_toFileS_eq k c1).trans h)
noncomputable def pl_laws_toMade : List (Nat × Run) := [(fid_laws_toFileS, run_laws_toFileS)]
noncomputable def G_laws_toMade : Ctx := ctx tyTab fiTab pl_laws_toMade
noncomputable def run_laws_toMade : Run := lim G_laws_toMade fid_laws_toMade
theorem ok_laws_toMade : FnOk Tryd.prog OkT fid_laws_toMade run_laws_toMade := lim_ok (l := pl_laws_toMade) Tryd_mix tyTab_ok fiTab_ok okT (.cons ok_laws_toFileS .nil) fid_laws_toMade
noncomputable def laws_toMade (k m : Nat) (s1 : ByteArray) (c2 : Cell) (s3 : ByteArray) : Option Res :=
  (callF run_laws_toFileS [.one (c2)] []).bind fun r4 =>
  cond (shapeOk rk_laws_toFileS r4.1)
  ((cC (cellsAt r4.1 0) 0).bind fun c5 =>
  some ([.agg [Cell.str s1, c5, Cell.str s3]], r4.2))
  none
theorem laws_toMade_code (k m : Nat) (s1 : ByteArray) (c2 : Cell) (s3 : ByteArray) : evC G_laws_toMade fi_laws_toMade (evF G_laws_toMade (k + 1)) m fi_laws_toMade.code none (retK G_laws_toMade fi_laws_toMade) (enter fi_laws_toMade [.agg [Cell.str s1, c2, Cell.str s3]] []) = laws_toMade (k + 1) m s1 c2 s3 := by
  kernel_rfl
theorem laws_toMade_eq (k : Nat) (s1 : ByteArray) (c2 : Cell) (s3 : ByteArray) : evF G_laws_toMade (k + 2) fid_laws_toMade [.agg [Cell.str s1, c2, Cell.str s3]] [] = laws_toMade (k + 1) (k + 1) s1 c2 s3 :=
  Eq.trans (by kernel_rfl) (laws_toMade_code k (k + 1) s1 c2 s3)
theorem run_laws_toMade_of {s1 : ByteArray} {c2 : Cell} {s3 : ByteArray} {r : Res} (k : Nat) (h : laws_toMade (k + 1) (k + 1) s1 c2 s3 = some r) : run_laws_toMade [.agg [Cell.str s1, c2, Cell.str s3]] [] = some r := lim_of ((laws_toMade_eq k s1 c2 s3).trans h)
noncomputable def pl_impl_putText : List (Nat × Run) := []
noncomputable def G_impl_putText : Ctx := ctx tyTab fiTab pl_impl_putText
noncomputable def run_impl_putText : Run := lim G_impl_putText fid_impl_putText
theorem ok_impl_putText : FnOk Tryd.prog OkT fid_impl_putText run_impl_putText := lim_ok (l := pl_impl_putText) Tryd_mix tyTab_ok fiTab_ok okT .nil fid_impl_putText
noncomputable def impl_putText (k m : Nat) (c1 : Cell) (s2 : ByteArray) (H : List Entry) : Option Res :=
  cond (decide ((s2.size : Int) > 60000))
  (some ([.one (c1)], H))
  ((app H 1 1 (c1) [[.sc (.int .u8 (IntKind.u8.wrap (shrI .i64 (s2.size : Int) 8)))], [.sc (.int .u8 (IntKind.u8.wrap (s2.size : Int)))]]).bind fun p3 =>
  (app p3.2 1 1 (p3.1) (byteRows s2)).bind fun p4 =>
  some ([.one (p4.1)], p4.2))
theorem impl_putText_code (k m : Nat) (c1 : Cell) (s2 : ByteArray) (H : List Entry) : evC G_impl_putText fi_impl_putText (evF G_impl_putText (k + 1)) m fi_impl_putText.code none (retK G_impl_putText fi_impl_putText) (enter fi_impl_putText [.one (c1), .one (Cell.str s2)] H) = impl_putText (k + 1) m c1 s2 H := by
  kernel_rfl
theorem impl_putText_eq (k : Nat) (c1 : Cell) (s2 : ByteArray) (H : List Entry) : evF G_impl_putText (k + 2) fid_impl_putText [.one (c1), .one (Cell.str s2)] H = impl_putText (k + 1) (k + 1) c1 s2 H :=
  Eq.trans (by kernel_rfl) (impl_putText_code k (k + 1) c1 s2 H)
theorem run_impl_putText_of {c1 : Cell} {s2 : ByteArray} {H : List Entry} {r : Res} (k : Nat) (h : impl_putText (k + 1) (k + 1) c1 s2 H = some r) : run_impl_putText [.one (c1), .one (Cell.str s2)] H = some r := lim_of ((impl_putText_eq k c1 s2 H).trans h)
noncomputable def pl_impl_NumText : List (Nat × Run) := [(fid_strconv_Itoa, run_strconv_Itoa)]
noncomputable def G_impl_NumText : Ctx := ctx tyTab fiTab pl_impl_NumText
noncomputable def run_impl_NumText : Run := lim G_impl_NumText fid_impl_NumText
theorem ok_impl_NumText : FnOk Tryd.prog OkT fid_impl_NumText run_impl_NumText := lim_ok (l := pl_impl_NumText) Tryd_mix tyTab_ok fiTab_ok okT (.cons ok_strconv_Itoa .nil) fid_impl_NumText
noncomputable def impl_NumText (k m : Nat) (i1 : Int) : Option Res :=
  (callS run_strconv_Itoa [.one (Cell.int (if i1 < 0 then 0 else i1))] []).bind fun r2 =>
  cond (shapeOk rk_strconv_Itoa r2)
  ((cS (cellsAt r2 0) 0).bind fun s3 =>
  some ([.one (Cell.str s3)], []))
  none
theorem impl_NumText_code (k m : Nat) (i1 : Int) : evC G_impl_NumText fi_impl_NumText (evF G_impl_NumText (k + 1)) m fi_impl_NumText.code none (retK G_impl_NumText fi_impl_NumText) (enter fi_impl_NumText [.one (Cell.int i1)] []) = impl_NumText (k + 1) m i1 := by
  kernel_rfl
theorem impl_NumText_eq (k : Nat) (i1 : Int) : evF G_impl_NumText (k + 2) fid_impl_NumText [.one (Cell.int i1)] [] = impl_NumText (k + 1) (k + 1) i1 :=
  Eq.trans (by kernel_rfl) (impl_NumText_code k (k + 1) i1)
theorem run_impl_NumText_of {i1 : Int} {r : Res} (k : Nat) (h : impl_NumText (k + 1) (k + 1) i1 = some r) : run_impl_NumText [.one (Cell.int i1)] [] = some r := lim_of ((impl_NumText_eq k i1).trans h)
noncomputable def pl_impl_putFiles : List (Nat × Run) := [(fid_impl_putText, run_impl_putText), (fid_impl_NumText, run_impl_NumText)]
noncomputable def G_impl_putFiles : Ctx := ctx tyTab fiTab pl_impl_putFiles
noncomputable def run_impl_putFiles : Run := lim G_impl_putFiles fid_impl_putFiles
theorem ok_impl_putFiles : FnOk Tryd.prog OkT fid_impl_putFiles run_impl_putFiles := lim_ok (l := pl_impl_putFiles) Tryd_mix tyTab_ok fiTab_ok okT (.cons ok_impl_putText (.cons ok_impl_NumText .nil)) fid_impl_putFiles
noncomputable def impl_putFiles_l0 (k m : Nat) : Nat → Cell → Cell → Int → Int → List Entry → Option Res
  | 0, _, _, _, _, _ => none
  | n + 1, c9, c10, i11, i12, H13 =>
    cond (decide (i12 < i11))
    ((idxA 2 (c10) i12).bind fun c14 =>
    (deref H13 (c14)).bind fun p15 =>
    (cS p15.1 p15.2).bind fun s16 =>
    (cS p15.1 (p15.2 + 1)).bind fun s17 =>
    (run_impl_putText [.one (c9), .one (Cell.str s16)] H13).bind fun r18 =>
    cond (shapeOk rk_impl_putText r18.1)
    ((cC (cellsAt r18.1 0) 0).bind fun c19 =>
    (run_impl_putText [.one (c19), .one (Cell.str s17)] r18.2).bind fun r20 =>
    cond (shapeOk rk_impl_putText r20.1)
    ((cC (cellsAt r20.1 0) 0).bind fun c21 =>
    impl_putFiles_l0 k m n (c21) (c10) i11 (IntKind.i64.wrap (i12 + 1)) r20.2)
    none)
    none)
    (some ([.one (c9)], H13))
noncomputable def impl_putFiles (k m : Nat) (c1 : Cell) (c2 : Cell) (H : List Entry) : Option Res :=
  (lenC c2).bind fun n3 =>
  (callS run_impl_NumText [.one (Cell.int (n3 : Int))] H).bind fun r4 =>
  cond (shapeOk rk_impl_NumText r4)
  ((cS (cellsAt r4 0) 0).bind fun s5 =>
  (run_impl_putText [.one (c1), .one (Cell.str s5)] H).bind fun r6 =>
  cond (shapeOk rk_impl_putText r6.1)
  ((cC (cellsAt r6.1 0) 0).bind fun c7 =>
  (lenC c2).bind fun n8 =>
  impl_putFiles_l0 k m m (c7) (c2) (n8 : Int) 0 r6.2)
  none)
  none
noncomputable abbrev impl_putFiles_l0_B (k m : Nat) : (Ex → Fr → Option Res) → Fr → Option Res := evC G_impl_putFiles fi_impl_putFiles (evF G_impl_putFiles (k + 1)) m (sub [1, 1, 0, 1, 2, 3] fi_impl_putFiles.code) none
noncomputable abbrev impl_putFiles_l0_K (k m : Nat) : Ex → Fr → Option Res := blockK 0 (seqK (evC G_impl_putFiles fi_impl_putFiles (evF G_impl_putFiles (k + 1)) m (sub [1, 1, 1] fi_impl_putFiles.code) none) (retK G_impl_putFiles fi_impl_putFiles))
theorem impl_putFiles_l0_eq (k m : Nat) : ∀ (n : Nat) (c9 : Cell) (c10 : Cell) (i11 : Int) (i12 : Int) (H13 : List Entry), loopK (some [0, 12, 13, 14]) (impl_putFiles_l0_B k m) (impl_putFiles_l0_K k m) n ⟨fT 27 0 [(0, .av (.one (c9))), (12, .av (.one (c10))), (13, .av (.one (Cell.int i11))), (14, .av (.one (Cell.int i12)))], fX 27 0 [], H13⟩ = impl_putFiles_l0 (k + 1) m n c9 c10 i11 i12 H13 := by
  intro n
  induction n with
  | zero => intros; rfl
  | succ n ih =>
    intros
    simp only [impl_putFiles_l0, ← ih]
    kernel_rfl
theorem impl_putFiles_code (k m : Nat) (c1 : Cell) (c2 : Cell) (H : List Entry) : evC G_impl_putFiles fi_impl_putFiles (evF G_impl_putFiles (k + 1)) m fi_impl_putFiles.code none (retK G_impl_putFiles fi_impl_putFiles) (enter fi_impl_putFiles [.one (c1), .one (c2)] H) = impl_putFiles (k + 1) m c1 c2 H := by
  simp only [impl_putFiles, ← impl_putFiles_l0_eq k m]
  kernel_rfl
theorem impl_putFiles_eq (k : Nat) (c1 : Cell) (c2 : Cell) (H : List Entry) : evF G_impl_putFiles (k + 2) fid_impl_putFiles [.one (c1), .one (c2)] H = impl_putFiles (k + 1) (k + 1) c1 c2 H :=
  Eq.trans (by kernel_rfl) (impl_putFiles_code k (k + 1) c1 c2 H)
theorem run_impl_putFiles_of {c1 : Cell} {c2 : Cell} {H : List Entry} {r : Res} (k : Nat) (h : impl_putFiles (k + 1) (k + 1) c1 c2 H = some r) : run_impl_putFiles [.one (c1), .one (c2)] H = some r := lim_of ((impl_putFiles_eq k c1 c2 H).trans h)
noncomputable def pl_impl_PutMade : List (Nat × Run) := [(fid_impl_putFiles, run_impl_putFiles), (fid_impl_putText, run_impl_putText)]
noncomputable def G_impl_PutMade : Ctx := ctx tyTab fiTab pl_impl_PutMade
noncomputable def run_impl_PutMade : Run := lim G_impl_PutMade fid_impl_PutMade
theorem ok_impl_PutMade : FnOk Tryd.prog OkT fid_impl_PutMade run_impl_PutMade := lim_ok (l := pl_impl_PutMade) Tryd_mix tyTab_ok fiTab_ok okT (.cons ok_impl_putFiles (.cons ok_impl_putText .nil)) fid_impl_PutMade
noncomputable def impl_PutMade_l0 (k m : Nat) : Nat → Cell → Int → Cell → Int → Int → List Entry → Option Res
  | 0, _, _, _, _, _, _ => none
  | n + 1, c11, i12, c13, i14, i15, H16 =>
    cond (decide (i15 < i14))
    ((idxA 1 (c13) i15).bind fun c17 =>
    (deref H16 (c17)).bind fun p18 =>
    (cI .u8 p18.1 p18.2).bind fun i19 =>
    impl_PutMade_l0 k m n (c11) (IntKind.i64.wrap (i12 + (IntKind.i64.wrap i19))) (c13) i14 (IntKind.i64.wrap (i15 + 1)) H16)
    ((app H16 1 1 (c11) [[.sc (.int .u8 (IntKind.u8.wrap (shrI .i64 i12 8)))], [.sc (.int .u8 (IntKind.u8.wrap i12))]]).bind fun p20 =>
    some ([.one (p20.1)], p20.2))
noncomputable def impl_PutMade (k m : Nat) (s1 : ByteArray) (c2 : Cell) (s3 : ByteArray) : Option Res :=
  (run_impl_putText [.one (.lst true 1 []), .one (Cell.str s1)] []).bind fun r4 =>
  cond (shapeOk rk_impl_putText r4.1)
  ((cC (cellsAt r4.1 0) 0).bind fun c5 =>
  (run_impl_putText [.one (c5), .one (Cell.str s3)] r4.2).bind fun r6 =>
  cond (shapeOk rk_impl_putText r6.1)
  ((cC (cellsAt r6.1 0) 0).bind fun c7 =>
  (run_impl_putFiles [.one (c7), .one (c2)] r6.2).bind fun r8 =>
  cond (shapeOk rk_impl_putFiles r8.1)
  ((cC (cellsAt r8.1 0) 0).bind fun c9 =>
  (lenC c9).bind fun n10 =>
  impl_PutMade_l0 k m m (c9) 0 (c9) (n10 : Int) 0 r8.2)
  none)
  none)
  none
noncomputable abbrev impl_PutMade_l0_B (k m : Nat) : (Ex → Fr → Option Res) → Fr → Option Res := evC G_impl_PutMade fi_impl_PutMade (evF G_impl_PutMade (k + 1)) m (sub [1, 1, 1, 0, 1, 2, 3] fi_impl_PutMade.code) none
noncomputable abbrev impl_PutMade_l0_K (k m : Nat) : Ex → Fr → Option Res := blockK 0 (seqK (evC G_impl_PutMade fi_impl_PutMade (evF G_impl_PutMade (k + 1)) m (sub [1, 1, 1, 1] fi_impl_PutMade.code) none) (retK G_impl_PutMade fi_impl_PutMade))
theorem impl_PutMade_l0_eq (k m : Nat) : ∀ (n : Nat) (c11 : Cell) (i12 : Int) (c13 : Cell) (i14 : Int) (i15 : Int) (H16 : List Entry), loopK (some [3, 4, 16, 17, 18]) (impl_PutMade_l0_B k m) (impl_PutMade_l0_K k m) n ⟨fT 35 0 [(3, .av (.one (c11))), (4, .av (.one (Cell.int i12))), (16, .av (.one (c13))), (17, .av (.one (Cell.int i14))), (18, .av (.one (Cell.int i15)))], fX 35 0 [], H16⟩ = impl_PutMade_l0 (k + 1) m n c11 i12 c13 i14 i15 H16 := by
  intro n
  induction n with
  | zero => intros; rfl
  | succ n ih =>
    intros
    simp only [impl_PutMade_l0, ← ih]
    kernel_rfl
theorem impl_PutMade_code (k m : Nat) (s1 : ByteArray) (c2 : Cell) (s3 : ByteArray) : evC G_impl_PutMade fi_impl_PutMade (evF G_impl_PutMade (k + 1)) m fi_impl_PutMade.code none (retK G_impl_PutMade fi_impl_PutMade) (enter fi_impl_PutMade [.agg [Cell.str s1, c2, Cell.str s3]] []) = impl_PutMade (k + 1) m s1 c2 s3 := by
  simp only [impl_PutMade, ← impl_PutMade_l0_eq k m]
  kernel_rfl
theorem impl_PutMade_eq (k : Nat) (s1 : ByteArray) (c2 : Cell) (s3 : ByteArray) : evF G_impl_PutMade (k + 2) fid_impl_PutMade [.agg [Cell.str s1, c2, Cell.str s3]] [] = impl_PutMade (k + 1) (k + 1) s1 c2 s3 :=
  Eq.trans (by kernel_rfl) (impl_PutMade_code k (k + 1) s1 c2 s3)
theorem run_impl_PutMade_of {s1 : ByteArray} {c2 : Cell} {s3 : ByteArray} {r : Res} (k : Nat) (h : impl_PutMade (k + 1) (k + 1) s1 c2 s3 = some r) : run_impl_PutMade [.agg [Cell.str s1, c2, Cell.str s3]] [] = some r := lim_of ((impl_PutMade_eq k s1 c2 s3).trans h)
noncomputable def pl_laws_eqByteS : List (Nat × Run) := []
noncomputable def G_laws_eqByteS : Ctx := ctx tyTab fiTab pl_laws_eqByteS
noncomputable def run_laws_eqByteS : Run := lim G_laws_eqByteS fid_laws_eqByteS
theorem ok_laws_eqByteS : FnOk Tryd.prog OkT fid_laws_eqByteS run_laws_eqByteS := lim_ok (l := pl_laws_eqByteS) Tryd_mix tyTab_ok fiTab_ok okT .nil fid_laws_eqByteS
noncomputable def laws_eqByteS_l0 (k m : Nat) : Nat → Cell → Cell → Int → Option Res
  | 0, _, _, _ => none
  | n + 1, c5, c6, i7 =>
    (lenC c5).bind fun n8 =>
    cond (decide (i7 < (n8 : Int)))
    ((idxA 1 (c5) i7).bind fun c9 =>
    (deref [] (c9)).bind fun p10 =>
    (cI .u8 p10.1 p10.2).bind fun i11 =>
    (idxA 1 (c6) i7).bind fun c12 =>
    (deref [] (c12)).bind fun p13 =>
    (cI .u8 p13.1 p13.2).bind fun i14 =>
    cond (i11 != i14)
    (some ([.one (Cell.bool false)], []))
    (laws_eqByteS_l0 k m n (c5) (c6) (IntKind.i64.wrap (i7 + 1))))
    (some ([.one (Cell.bool true)], []))
noncomputable def laws_eqByteS (k m : Nat) (c1 : Cell) (c2 : Cell) : Option Res :=
  (lenC c1).bind fun n3 =>
  (lenC c2).bind fun n4 =>
  cond ((n3 : Int) != (n4 : Int))
  (some ([.one (Cell.bool false)], []))
  (laws_eqByteS_l0 k m m (c1) (c2) 0)
noncomputable abbrev laws_eqByteS_l0_B (k m : Nat) : (Ex → Fr → Option Res) → Fr → Option Res := evC G_laws_eqByteS fi_laws_eqByteS (evF G_laws_eqByteS (k + 1)) m (sub [1, 1, 0, 1, 2, 3] fi_laws_eqByteS.code) none
noncomputable abbrev laws_eqByteS_l0_K (k m : Nat) : Ex → Fr → Option Res := blockK 0 (seqK (evC G_laws_eqByteS fi_laws_eqByteS (evF G_laws_eqByteS (k + 1)) m (sub [1, 1, 1] fi_laws_eqByteS.code) none) (retK G_laws_eqByteS fi_laws_eqByteS))
theorem laws_eqByteS_l0_eq (k m : Nat) : ∀ (n : Nat) (c5 : Cell) (c6 : Cell) (i7 : Int), loopK (some [0, 1, 5]) (laws_eqByteS_l0_B k m) (laws_eqByteS_l0_K k m) n ⟨fT 26 0 [(0, .av (.one (c5))), (1, .av (.one (c6))), (5, .av (.one (Cell.int i7)))], fX 26 0 [], []⟩ = laws_eqByteS_l0 (k + 1) m n c5 c6 i7 := by
  intro n
  induction n with
  | zero => intros; rfl
  | succ n ih =>
    intros
    simp only [laws_eqByteS_l0, ← ih]
    kernel_rfl
theorem laws_eqByteS_code (k m : Nat) (c1 : Cell) (c2 : Cell) : evC G_laws_eqByteS fi_laws_eqByteS (evF G_laws_eqByteS (k + 1)) m fi_laws_eqByteS.code none (retK G_laws_eqByteS fi_laws_eqByteS) (enter fi_laws_eqByteS [.one (c1), .one (c2)] []) = laws_eqByteS (k + 1) m c1 c2 := by
  simp only [laws_eqByteS, ← laws_eqByteS_l0_eq k m]
  kernel_rfl
theorem laws_eqByteS_eq (k : Nat) (c1 : Cell) (c2 : Cell) : evF G_laws_eqByteS (k + 2) fid_laws_eqByteS [.one (c1), .one (c2)] [] = laws_eqByteS (k + 1) (k + 1) c1 c2 :=
  Eq.trans (by kernel_rfl) (laws_eqByteS_code k (k + 1) c1 c2)
theorem run_laws_eqByteS_of {c1 : Cell} {c2 : Cell} {r : Res} (k : Nat) (h : laws_eqByteS (k + 1) (k + 1) c1 c2 = some r) : run_laws_eqByteS [.one (c1), .one (c2)] [] = some r := lim_of ((laws_eqByteS_eq k c1 c2).trans h)
noncomputable def pl_laws_eqFile : List (Nat × Run) := []
noncomputable def G_laws_eqFile : Ctx := ctx tyTab fiTab pl_laws_eqFile
noncomputable def run_laws_eqFile : Run := lim G_laws_eqFile fid_laws_eqFile
theorem ok_laws_eqFile : FnOk Tryd.prog OkT fid_laws_eqFile run_laws_eqFile := lim_ok (l := pl_laws_eqFile) Tryd_mix tyTab_ok fiTab_ok okT .nil fid_laws_eqFile
noncomputable def laws_eqFile (k m : Nat) (s1 : ByteArray) (s2 : ByteArray) (s3 : ByteArray) (s4 : ByteArray) : Option Res :=
  cond (!(s1.toList == s3.toList))
  (some ([.one (Cell.bool false)], []))
  (cond (!(s2.toList == s4.toList))
  (some ([.one (Cell.bool false)], []))
  (some ([.one (Cell.bool true)], [])))
theorem laws_eqFile_code (k m : Nat) (s1 : ByteArray) (s2 : ByteArray) (s3 : ByteArray) (s4 : ByteArray) : evC G_laws_eqFile fi_laws_eqFile (evF G_laws_eqFile (k + 1)) m fi_laws_eqFile.code none (retK G_laws_eqFile fi_laws_eqFile) (enter fi_laws_eqFile [.agg [Cell.str s1, Cell.str s2], .agg [Cell.str s3, Cell.str s4]] []) = laws_eqFile (k + 1) m s1 s2 s3 s4 := by
  kernel_rfl
theorem laws_eqFile_eq (k : Nat) (s1 : ByteArray) (s2 : ByteArray) (s3 : ByteArray) (s4 : ByteArray) : evF G_laws_eqFile (k + 2) fid_laws_eqFile [.agg [Cell.str s1, Cell.str s2], .agg [Cell.str s3, Cell.str s4]] [] = laws_eqFile (k + 1) (k + 1) s1 s2 s3 s4 :=
  Eq.trans (by kernel_rfl) (laws_eqFile_code k (k + 1) s1 s2 s3 s4)
theorem run_laws_eqFile_of {s1 : ByteArray} {s2 : ByteArray} {s3 : ByteArray} {s4 : ByteArray} {r : Res} (k : Nat) (h : laws_eqFile (k + 1) (k + 1) s1 s2 s3 s4 = some r) : run_laws_eqFile [.agg [Cell.str s1, Cell.str s2], .agg [Cell.str s3, Cell.str s4]] [] = some r := lim_of ((laws_eqFile_eq k s1 s2 s3 s4).trans h)
noncomputable def pl_laws_eqFileS : List (Nat × Run) := [(fid_laws_eqFile, run_laws_eqFile)]
noncomputable def G_laws_eqFileS : Ctx := ctx tyTab fiTab pl_laws_eqFileS
noncomputable def run_laws_eqFileS : Run := lim G_laws_eqFileS fid_laws_eqFileS
theorem ok_laws_eqFileS : FnOk Tryd.prog OkT fid_laws_eqFileS run_laws_eqFileS := lim_ok (l := pl_laws_eqFileS) Tryd_mix tyTab_ok fiTab_ok okT (.cons ok_laws_eqFile .nil) fid_laws_eqFileS
noncomputable def laws_eqFileS_l0 (k m : Nat) : Nat → Cell → Cell → Int → Option Res
  | 0, _, _, _ => none
  | n + 1, c5, c6, i7 =>
    (lenC c5).bind fun n8 =>
    cond (decide (i7 < (n8 : Int)))
    ((idxA 2 (c5) i7).bind fun c9 =>
    (deref [] (c9)).bind fun p10 =>
    (cS p10.1 p10.2).bind fun s11 =>
    (cS p10.1 (p10.2 + 1)).bind fun s12 =>
    (idxA 2 (c6) i7).bind fun c13 =>
    (deref [] (c13)).bind fun p14 =>
    (cS p14.1 p14.2).bind fun s15 =>
    (cS p14.1 (p14.2 + 1)).bind fun s16 =>
    (callS run_laws_eqFile [.agg [Cell.str s11, Cell.str s12], .agg [Cell.str s15, Cell.str s16]] []).bind fun r17 =>
    cond (shapeOk rk_laws_eqFile r17)
    ((cB (cellsAt r17 0) 0).bind fun b18 =>
    cond (!b18)
    (some ([.one (Cell.bool false)], []))
    (laws_eqFileS_l0 k m n (c5) (c6) (IntKind.i64.wrap (i7 + 1))))
    none)
    (some ([.one (Cell.bool true)], []))
noncomputable def laws_eqFileS (k m : Nat) (c1 : Cell) (c2 : Cell) : Option Res :=
  (lenC c1).bind fun n3 =>
  (lenC c2).bind fun n4 =>
  cond ((n3 : Int) != (n4 : Int))
  (some ([.one (Cell.bool false)], []))
  (laws_eqFileS_l0 k m m (c1) (c2) 0)
noncomputable abbrev laws_eqFileS_l0_B (k m : Nat) : (Ex → Fr → Option Res) → Fr → Option Res := evC G_laws_eqFileS fi_laws_eqFileS (evF G_laws_eqFileS (k + 1)) m (sub [1, 1, 0, 1, 2, 3] fi_laws_eqFileS.code) none
noncomputable abbrev laws_eqFileS_l0_K (k m : Nat) : Ex → Fr → Option Res := blockK 0 (seqK (evC G_laws_eqFileS fi_laws_eqFileS (evF G_laws_eqFileS (k + 1)) m (sub [1, 1, 1] fi_laws_eqFileS.code) none) (retK G_laws_eqFileS fi_laws_eqFileS))
theorem laws_eqFileS_l0_eq (k m : Nat) : ∀ (n : Nat) (c5 : Cell) (c6 : Cell) (i7 : Int), loopK (some [0, 1, 5]) (laws_eqFileS_l0_B k m) (laws_eqFileS_l0_K k m) n ⟨fT 27 0 [(0, .av (.one (c5))), (1, .av (.one (c6))), (5, .av (.one (Cell.int i7)))], fX 27 0 [], []⟩ = laws_eqFileS_l0 (k + 1) m n c5 c6 i7 := by
  intro n
  induction n with
  | zero => intros; rfl
  | succ n ih =>
    intros
    simp only [laws_eqFileS_l0, ← ih]
    kernel_rfl
theorem laws_eqFileS_code (k m : Nat) (c1 : Cell) (c2 : Cell) : evC G_laws_eqFileS fi_laws_eqFileS (evF G_laws_eqFileS (k + 1)) m fi_laws_eqFileS.code none (retK G_laws_eqFileS fi_laws_eqFileS) (enter fi_laws_eqFileS [.one (c1), .one (c2)] []) = laws_eqFileS (k + 1) m c1 c2 := by
  simp only [laws_eqFileS, ← laws_eqFileS_l0_eq k m]
  kernel_rfl
theorem laws_eqFileS_eq (k : Nat) (c1 : Cell) (c2 : Cell) : evF G_laws_eqFileS (k + 2) fid_laws_eqFileS [.one (c1), .one (c2)] [] = laws_eqFileS (k + 1) (k + 1) c1 c2 :=
  Eq.trans (by kernel_rfl) (laws_eqFileS_code k (k + 1) c1 c2)
theorem run_laws_eqFileS_of {c1 : Cell} {c2 : Cell} {r : Res} (k : Nat) (h : laws_eqFileS (k + 1) (k + 1) c1 c2 = some r) : run_laws_eqFileS [.one (c1), .one (c2)] [] = some r := lim_of ((laws_eqFileS_eq k c1 c2).trans h)
noncomputable def pl_laws_eqMade : List (Nat × Run) := [(fid_laws_eqFileS, run_laws_eqFileS)]
noncomputable def G_laws_eqMade : Ctx := ctx tyTab fiTab pl_laws_eqMade
noncomputable def run_laws_eqMade : Run := lim G_laws_eqMade fid_laws_eqMade
theorem ok_laws_eqMade : FnOk Tryd.prog OkT fid_laws_eqMade run_laws_eqMade := lim_ok (l := pl_laws_eqMade) Tryd_mix tyTab_ok fiTab_ok okT (.cons ok_laws_eqFileS .nil) fid_laws_eqMade
noncomputable def laws_eqMade (k m : Nat) (s1 : ByteArray) (c2 : Cell) (s3 : ByteArray) (s4 : ByteArray) (c5 : Cell) (s6 : ByteArray) : Option Res :=
  cond (!(s1.toList == s4.toList))
  (some ([.one (Cell.bool false)], []))
  ((callS run_laws_eqFileS [.one (c2), .one (c5)] []).bind fun r7 =>
  cond (shapeOk rk_laws_eqFileS r7)
  ((cB (cellsAt r7 0) 0).bind fun b8 =>
  cond (!b8)
  (some ([.one (Cell.bool false)], []))
  (cond (!(s3.toList == s6.toList))
  (some ([.one (Cell.bool false)], []))
  (some ([.one (Cell.bool true)], []))))
  none)
theorem laws_eqMade_code (k m : Nat) (s1 : ByteArray) (c2 : Cell) (s3 : ByteArray) (s4 : ByteArray) (c5 : Cell) (s6 : ByteArray) : evC G_laws_eqMade fi_laws_eqMade (evF G_laws_eqMade (k + 1)) m fi_laws_eqMade.code none (retK G_laws_eqMade fi_laws_eqMade) (enter fi_laws_eqMade [.agg [Cell.str s1, c2, Cell.str s3], .agg [Cell.str s4, c5, Cell.str s6]] []) = laws_eqMade (k + 1) m s1 c2 s3 s4 c5 s6 := by
  kernel_rfl
theorem laws_eqMade_eq (k : Nat) (s1 : ByteArray) (c2 : Cell) (s3 : ByteArray) (s4 : ByteArray) (c5 : Cell) (s6 : ByteArray) : evF G_laws_eqMade (k + 2) fid_laws_eqMade [.agg [Cell.str s1, c2, Cell.str s3], .agg [Cell.str s4, c5, Cell.str s6]] [] = laws_eqMade (k + 1) (k + 1) s1 c2 s3 s4 c5 s6 :=
  Eq.trans (by kernel_rfl) (laws_eqMade_code k (k + 1) s1 c2 s3 s4 c5 s6)
theorem run_laws_eqMade_of {s1 : ByteArray} {c2 : Cell} {s3 : ByteArray} {s4 : ByteArray} {c5 : Cell} {s6 : ByteArray} {r : Res} (k : Nat) (h : laws_eqMade (k + 1) (k + 1) s1 c2 s3 s4 c5 s6 = some r) : run_laws_eqMade [.agg [Cell.str s1, c2, Cell.str s3], .agg [Cell.str s4, c5, Cell.str s6]] [] = some r := lim_of ((laws_eqMade_eq k s1 c2 s3 s4 c5 s6).trans h)
noncomputable def pl_laws_markText : List (Nat × Run) := []
noncomputable def G_laws_markText : Ctx := ctx tyTab fiTab pl_laws_markText
noncomputable def run_laws_markText : Run := lim G_laws_markText fid_laws_markText
theorem ok_laws_markText : FnOk Tryd.prog OkT fid_laws_markText run_laws_markText := lim_ok (l := pl_laws_markText) Tryd_mix tyTab_ok fiTab_ok okT .nil fid_laws_markText
noncomputable def laws_markText_l0 (k m : Nat) : Nat → Int → ByteArray → Option Res
  | 0, _, _ => none
  | n + 1, i2, s3 =>
    cond (decide (i2 > 0))
    ((bytesOf [] (.lst true 1 [[.sc (.int .u8 (IntKind.u8.wrap (IntKind.i64.wrap (48 + (i2.tmod 10)))))]])).bind fun s4 =>
    (catS s4 s3).bind fun s5 =>
    laws_markText_l0 k m n (IntKind.i64.wrap (i2.tdiv 10)) s5)
    ((catS (bs [109]) s3).bind fun s6 =>
    some ([.one (Cell.str s6)], []))
noncomputable def laws_markText (k m : Nat) (i1 : Int) : Option Res :=
  cond (decide (i1 ≤ 0))
  (some ([.one (Cell.str (bs [109, 48]))], []))
  (laws_markText_l0 k m m i1 (bs []))
noncomputable abbrev laws_markText_l0_B (k m : Nat) : (Ex → Fr → Option Res) → Fr → Option Res := evC G_laws_markText fi_laws_markText (evF G_laws_markText (k + 1)) m (sub [1, 1, 1, 0, 2, 3] fi_laws_markText.code) none
noncomputable abbrev laws_markText_l0_K (k m : Nat) : Ex → Fr → Option Res := blockK 0 (seqK (evC G_laws_markText fi_laws_markText (evF G_laws_markText (k + 1)) m (sub [1, 1, 1, 1] fi_laws_markText.code) none) (retK G_laws_markText fi_laws_markText))
theorem laws_markText_l0_eq (k m : Nat) : ∀ (n : Nat) (i2 : Int) (s3 : ByteArray), loopK (some [0, 3]) (laws_markText_l0_B k m) (laws_markText_l0_K k m) n ⟨fT 20 0 [(0, .av (.one (Cell.int i2))), (3, .av (.one (Cell.str s3)))], fX 20 0 [], []⟩ = laws_markText_l0 (k + 1) m n i2 s3 := by
  intro n
  induction n with
  | zero => intros; rfl
  | succ n ih =>
    intros
    simp only [laws_markText_l0, ← ih]
    kernel_rfl
theorem laws_markText_code (k m : Nat) (i1 : Int) : evC G_laws_markText fi_laws_markText (evF G_laws_markText (k + 1)) m fi_laws_markText.code none (retK G_laws_markText fi_laws_markText) (enter fi_laws_markText [.one (Cell.int i1)] []) = laws_markText (k + 1) m i1 := by
  simp only [laws_markText, ← laws_markText_l0_eq k m]
  kernel_rfl
theorem laws_markText_eq (k : Nat) (i1 : Int) : evF G_laws_markText (k + 2) fid_laws_markText [.one (Cell.int i1)] [] = laws_markText (k + 1) (k + 1) i1 :=
  Eq.trans (by kernel_rfl) (laws_markText_code k (k + 1) i1)
theorem run_laws_markText_of {i1 : Int} {r : Res} (k : Nat) (h : laws_markText (k + 1) (k + 1) i1 = some r) : run_laws_markText [.one (Cell.int i1)] [] = some r := lim_of ((laws_markText_eq k i1).trans h)
noncomputable def pl_laws_markFileS : List (Nat × Run) := [(fid_laws_markText, run_laws_markText)]
noncomputable def G_laws_markFileS : Ctx := ctx tyTab fiTab pl_laws_markFileS
noncomputable def run_laws_markFileS : Run := lim G_laws_markFileS fid_laws_markFileS
theorem ok_laws_markFileS : FnOk Tryd.prog OkT fid_laws_markFileS run_laws_markFileS := lim_ok (l := pl_laws_markFileS) Tryd_mix tyTab_ok fiTab_ok okT (.cons ok_laws_markText .nil) fid_laws_markFileS
noncomputable def laws_markFileS_l0 (k m : Nat) : Nat → Cell → Int → Int → List Entry → Option Res
  | 0, _, _, _, _ => none
  | n + 1, c3, i4, i5, H6 =>
    (lenC c3).bind fun n7 =>
    cond (decide (i5 < (n7 : Int)))
    ((callS run_laws_markText [.one (Cell.int i4)] H6).bind fun r8 =>
    cond (shapeOk rk_laws_markText r8)
    ((cS (cellsAt r8 0) 0).bind fun s9 =>
    (idxA 2 (c3) i5).bind fun c10 =>
    (fldA c10 0).bind fun c11 =>
    (hStore H6 (c11) [Cell.str s9]).bind fun h12 =>
    (callS run_laws_markText [.one (Cell.int (IntKind.i64.wrap (i4 + 1)))] h12).bind fun r13 =>
    cond (shapeOk rk_laws_markText r13)
    ((cS (cellsAt r13 0) 0).bind fun s14 =>
    (idxA 2 (c3) i5).bind fun c15 =>
    (fldA c15 1).bind fun c16 =>
    (hStore h12 (c16) [Cell.str s14]).bind fun h17 =>
    laws_markFileS_l0 k m n (c3) (IntKind.i64.wrap ((IntKind.i64.wrap (i4 + 1)) + 1)) (IntKind.i64.wrap (i5 + 1)) h17)
    none)
    none)
    (some ([.one (Cell.int i4)], H6))
noncomputable def laws_markFileS (k m : Nat) (c1 : Cell) (i2 : Int) (H : List Entry) : Option Res :=
  laws_markFileS_l0 k m m (c1) i2 0 H
noncomputable abbrev laws_markFileS_l0_B (k m : Nat) : (Ex → Fr → Option Res) → Fr → Option Res := evC G_laws_markFileS fi_laws_markFileS (evF G_laws_markFileS (k + 1)) m (sub [1, 0, 1, 2, 3] fi_laws_markFileS.code) none
noncomputable abbrev laws_markFileS_l0_K (k m : Nat) : Ex → Fr → Option Res := blockK 0 (seqK (evC G_laws_markFileS fi_laws_markFileS (evF G_laws_markFileS (k + 1)) m (sub [1, 1] fi_laws_markFileS.code) none) (retK G_laws_markFileS fi_laws_markFileS))
theorem laws_markFileS_l0_eq (k m : Nat) : ∀ (n : Nat) (c3 : Cell) (i4 : Int) (i5 : Int) (H6 : List Entry), loopK (some [0, 1, 5]) (laws_markFileS_l0_B k m) (laws_markFileS_l0_K k m) n ⟨fT 29 0 [(0, .av (.one (c3))), (1, .av (.one (Cell.int i4))), (5, .av (.one (Cell.int i5)))], fX 29 0 [], H6⟩ = laws_markFileS_l0 (k + 1) m n c3 i4 i5 H6 := by
  intro n
  induction n with
  | zero => intros; rfl
  | succ n ih =>
    intros
    simp only [laws_markFileS_l0, ← ih]
    kernel_rfl
theorem laws_markFileS_code (k m : Nat) (c1 : Cell) (i2 : Int) (H : List Entry) : evC G_laws_markFileS fi_laws_markFileS (evF G_laws_markFileS (k + 1)) m fi_laws_markFileS.code none (retK G_laws_markFileS fi_laws_markFileS) (enter fi_laws_markFileS [.one (c1), .one (Cell.int i2)] H) = laws_markFileS (k + 1) m c1 i2 H := by
  simp only [laws_markFileS, ← laws_markFileS_l0_eq k m]
  kernel_rfl
theorem laws_markFileS_eq (k : Nat) (c1 : Cell) (i2 : Int) (H : List Entry) : evF G_laws_markFileS (k + 2) fid_laws_markFileS [.one (c1), .one (Cell.int i2)] H = laws_markFileS (k + 1) (k + 1) c1 i2 H :=
  Eq.trans (by kernel_rfl) (laws_markFileS_code k (k + 1) c1 i2 H)
theorem run_laws_markFileS_of {c1 : Cell} {i2 : Int} {H : List Entry} {r : Res} (k : Nat) (h : laws_markFileS (k + 1) (k + 1) c1 i2 H = some r) : run_laws_markFileS [.one (c1), .one (Cell.int i2)] H = some r := lim_of ((laws_markFileS_eq k c1 i2 H).trans h)
noncomputable def pl_laws_markMade : List (Nat × Run) := [(fid_laws_markFileS, run_laws_markFileS)]
noncomputable def G_laws_markMade : Ctx := ctx tyTab fiTab pl_laws_markMade
noncomputable def run_laws_markMade : Run := lim G_laws_markMade fid_laws_markMade
theorem ok_laws_markMade : FnOk Tryd.prog OkT fid_laws_markMade run_laws_markMade := lim_ok (l := pl_laws_markMade) Tryd_mix tyTab_ok fiTab_ok okT (.cons ok_laws_markFileS .nil) fid_laws_markMade
noncomputable def laws_markMade (k m : Nat) (s1 : ByteArray) (c2 : Cell) (s3 : ByteArray) (i4 : Int) (H : List Entry) : Option Res :=
  (run_laws_markFileS [.one (c2), .one (Cell.int i4)] H).bind fun r5 =>
  cond (shapeOk rk_laws_markFileS r5.1)
  ((cI .i64 (cellsAt r5.1 0) 0).bind fun i6 =>
  some ([.one (Cell.int i6)], r5.2))
  none
theorem laws_markMade_code (k m : Nat) (s1 : ByteArray) (c2 : Cell) (s3 : ByteArray) (i4 : Int) (H : List Entry) : evC G_laws_markMade fi_laws_markMade (evF G_laws_markMade (k + 1)) m fi_laws_markMade.code none (retK G_laws_markMade fi_laws_markMade) (enter fi_laws_markMade [.agg [Cell.str s1, c2, Cell.str s3], .one (Cell.int i4)] H) = laws_markMade (k + 1) m s1 c2 s3 i4 H := by
  kernel_rfl
theorem laws_markMade_eq (k : Nat) (s1 : ByteArray) (c2 : Cell) (s3 : ByteArray) (i4 : Int) (H : List Entry) : evF G_laws_markMade (k + 2) fid_laws_markMade [.agg [Cell.str s1, c2, Cell.str s3], .one (Cell.int i4)] H = laws_markMade (k + 1) (k + 1) s1 c2 s3 i4 H :=
  Eq.trans (by kernel_rfl) (laws_markMade_code k (k + 1) s1 c2 s3 i4 H)
theorem run_laws_markMade_of {s1 : ByteArray} {c2 : Cell} {s3 : ByteArray} {i4 : Int} {H : List Entry} {r : Res} (k : Nat) (h : laws_markMade (k + 1) (k + 1) s1 c2 s3 i4 H = some r) : run_laws_markMade [.agg [Cell.str s1, c2, Cell.str s3], .one (Cell.int i4)] H = some r := lim_of ((laws_markMade_eq k s1 c2 s3 i4 H).trans h)
end Go.Ev
