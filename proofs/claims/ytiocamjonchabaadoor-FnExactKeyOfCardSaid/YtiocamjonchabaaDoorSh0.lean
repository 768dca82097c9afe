/- What the evaluator says of the functions, each as a Lean function over cells. Printed by a program of this claim. Conditions: none. -/
import Derived.Test.YtiocamjonchabaaDoorEvPr
import Derived.KernelRfl
namespace Go.Ev
open Go Go.Proofs
set_option maxRecDepth 100000
set_option linter.unusedVariables false
set_option linter.unusedSimpArgs false
noncomputable def pl_laws_eqByteS : List (Nat × Run) := []
noncomputable def G_laws_eqByteS : Ctx := ctx tyTab fiTab pl_laws_eqByteS
noncomputable def run_laws_eqByteS : Run := lim G_laws_eqByteS fid_laws_eqByteS
theorem ok_laws_eqByteS : FnOk Tryd.prog OkT fid_laws_eqByteS run_laws_eqByteS := lim_ok (l := pl_laws_eqByteS) Tryd_mix tyTab_ok fiTab_ok okT .nil fid_laws_eqByteS
noncomputable def laws_eqByteS_l0 (k m : Nat) : Nat → Cell → Cell → Int → Option Res
  | 0, _, _, _ => none
  | n + 1, c5, c6, i7 =>
    (lenC c5).bind fun n8 =>
    cond (decide (i7 < (n8 : Int)))
    ((idxA 1 (c5) i7).bind fun c9 =>
    (deref [] (c9)).bind fun p10 =>
    (cI .u8 p10.1 p10.2).bind fun i11 =>
    (idxA 1 (c6) i7).bind fun c12 =>
    (deref [] (c12)).bind fun p13 =>
    (cI .u8 p13.1 p13.2).bind fun i14 =>
    cond (i11 != i14)
    (some ([.one (Cell.bool false)], []))
    (laws_eqByteS_l0 k m n (c5) (c6) (IntKind.i64.wrap (i7 + 1))))
    (some ([.one (Cell.bool true)], []))
noncomputable def laws_eqByteS (k m : Nat) (c1 : Cell) (c2 : Cell) : Option Res :=
  (lenC c1).bind fun n3 =>
  (lenC c2).bind fun n4 =>
  cond ((n3 : Int) != (n4 : Int))
  (some ([.one (Cell.bool false)], []))
  (laws_eqByteS_l0 k m m (c1) (c2) 0)
noncomputable abbrev laws_eqByteS_l0_B (k m : Nat) : (Ex → Fr → Option Res) → Fr → Option Res := evC G_laws_eqByteS fi_laws_eqByteS (evF G_laws_eqByteS (k + 1)) m (sub [1, 1, 0, 1, 2, 3] fi_laws_eqByteS.code) none
noncomputable abbrev laws_eqByteS_l0_K (k m : Nat) : Ex → Fr → Option Res := blockK 0 (seqK (evC G_laws_eqByteS fi_laws_eqByteS (evF G_laws_eqByteS (k + 1)) m (sub [1, 1, 1] fi_laws_eqByteS.code) none) (retK G_laws_eqByteS fi_laws_eqByteS))
theorem laws_eqByteS_l0_eq (k m : Nat) : ∀ (n : Nat) (c5 : Cell) (c6 : Cell) (i7 : Int), loopK (some [0, 1, 5]) (laws_eqByteS_l0_B k m) (laws_eqByteS_l0_K k m) n ⟨fT 26 0 [(0, .av (.one (c5))), (1, .av (.one (c6))), (5, .av (.one (Cell.int i7)))], fX 26 0 [], []⟩ = laws_eqByteS_l0 (k + 1) m n c5 c6 i7 := by
  intro n
  induction n with
  | zero => intros; rfl
  | succ n ih =>
    intros
    simp only [laws_eqByteS_l0, ← ih]
    kernel_rfl
theorem laws_eqByteS_code (k m : Nat) (c1 : Cell) (c2 : Cell) : evC G_laws_eqByteS fi_laws_eqByteS (evF G_laws_eqByteS (k + 1)) m fi_laws_eqByteS.code none (retK G_laws_eqByteS fi_laws_eqByteS) (enter fi_laws_eqByteS [.one (c1), .one (c2)] []) = laws_eqByteS (k + 1) m c1 c2 := by
  simp only [laws_eqByteS, ← laws_eqByteS_l0_eq k m]
  kernel_rfl
theorem laws_eqByteS_eq (k : Nat) (c1 : Cell) (c2 : Cell) : evF G_laws_eqByteS (k + 2) fid_laws_eqByteS [.one (c1), .one (c2)] [] = laws_eqByteS (k + 1) (k + 1) c1 c2 :=
  Eq.trans (by kernel_rfl) (laws_eqByteS_code k (k + 1) c1 c2)
theorem run_laws_eqByteS_of {c1 : Cell} {c2 : Cell} {r : Res} (k : Nat) (h : laws_eqByteS (k + 1) (k + 1) c1 c2 = some r) : run_laws_eqByteS [.one (c1), .one (c2)] [] = some r := lim_of ((laws_eqByteS_eq k c1 c2).trans h)
noncomputable def pl_laws_markByteS : List (Nat × Run) := []
noncomputable def G_laws_markByteS : Ctx := ctx tyTab fiTab pl_laws_markByteS
noncomputable def run_laws_markByteS : Run := lim G_laws_markByteS fid_laws_markByteS
theorem ok_laws_markByteS : FnOk Tryd.prog OkT fid_laws_markByteS run_laws_markByteS := lim_ok (l := pl_laws_markByteS) Tryd_mix tyTab_ok fiTab_ok okT .nil fid_laws_markByteS
noncomputable def laws_markByteS_l0 (k m : Nat) : Nat → Cell → Int → Int → List Entry → Option Res
  | 0, _, _, _, _ => none
  | n + 1, c3, i4, i5, H6 =>
    (lenC c3).bind fun n7 =>
    cond (decide (i5 < (n7 : Int)))
    ((idxA 1 (c3) i5).bind fun c8 =>
    (hStore H6 (c8) [.sc (.int .u8 (IntKind.u8.wrap i4))]).bind fun h9 =>
    laws_markByteS_l0 k m n (c3) (IntKind.i64.wrap (i4 + 1)) (IntKind.i64.wrap (i5 + 1)) h9)
    (some ([.one (Cell.int i4)], H6))
noncomputable def laws_markByteS (k m : Nat) (c1 : Cell) (i2 : Int) (H : List Entry) : Option Res :=
  laws_markByteS_l0 k m m (c1) i2 0 H
noncomputable abbrev laws_markByteS_l0_B (k m : Nat) : (Ex → Fr → Option Res) → Fr → Option Res := evC G_laws_markByteS fi_laws_markByteS (evF G_laws_markByteS (k + 1)) m (sub [1, 0, 1, 2, 3] fi_laws_markByteS.code) none
noncomputable abbrev laws_markByteS_l0_K (k m : Nat) : Ex → Fr → Option Res := blockK 0 (seqK (evC G_laws_markByteS fi_laws_markByteS (evF G_laws_markByteS (k + 1)) m (sub [1, 1] fi_laws_markByteS.code) none) (retK G_laws_markByteS fi_laws_markByteS))
theorem laws_markByteS_l0_eq (k m : Nat) : ∀ (n : Nat) (c3 : Cell) (i4 : Int) (i5 : Int) (H6 : List Entry), loopK (some [0, 1, 5]) (laws_markByteS_l0_B k m) (laws_markByteS_l0_K k m) n ⟨fT 20 0 [(0, .av (.one (c3))), (1, .av (.one (Cell.int i4))), (5, .av (.one (Cell.int i5)))], fX 20 0 [], H6⟩ = laws_markByteS_l0 (k + 1) m n c3 i4 i5 H6 := by
  intro n
  induction n with
  | zero => intros; rfl
  | succ n ih =>
    intros
    simp only [laws_markByteS_l0, ← ih]
    kernel_rfl
theorem laws_markByteS_code (k m : Nat) (c1 : Cell) (i2 : Int) (H : List Entry) : evC G_laws_markByteS fi_laws_markByteS (evF G_laws_markByteS (k + 1)) m fi_laws_markByteS.code none (retK G_laws_markByteS fi_laws_markByteS) (enter fi_laws_markByteS [.one (c1), .one (Cell.int i2)] H) = laws_markByteS (k + 1) m c1 i2 H := by
  simp only [laws_markByteS, ← laws_markByteS_l0_eq k m]
  kernel_rfl
theorem laws_markByteS_eq (k : Nat) (c1 : Cell) (i2 : Int) (H : List Entry) : evF G_laws_markByteS (k + 2) fid_laws_markByteS [.one (c1), .one (Cell.int i2)] H = laws_markByteS (k + 1) (k + 1) c1 i2 H :=
  Eq.trans (by kernel_rfl) (laws_markByteS_code k (k + 1) c1 i2 H)
theorem run_laws_markByteS_of {c1 : Cell} {i2 : Int} {H : List Entry} {r : Res} (k : Nat) (h : laws_markByteS (k + 1) (k + 1) c1 i2 H = some r) : run_laws_markByteS [.one (c1), .one (Cell.int i2)] H = some r := lim_of ((laws_markByteS_eq k c1 i2 H).trans h)
noncomputable def pl_laws_heldByteS : List (Nat × Run) := []
noncomputable def G_laws_heldByteS : Ctx := ctx tyTab fiTab pl_laws_heldByteS
noncomputable def run_laws_heldByteS : Run := lim G_laws_heldByteS fid_laws_heldByteS
theorem ok_laws_heldByteS : FnOk Tryd.prog OkT fid_laws_heldByteS run_laws_heldByteS := lim_ok (l := pl_laws_heldByteS) Tryd_mix tyTab_ok fiTab_ok okT .nil fid_laws_heldByteS
noncomputable def laws_heldByteS_l0 (k m : Nat) : Nat → Cell → Int → Int → Option Res
  | 0, _, _, _ => none
  | n + 1, c3, i4, i5 =>
    (lenC c3).bind fun n6 =>
    cond (decide (i5 < (n6 : Int)))
    ((idxA 1 (c3) i5).bind fun c7 =>
    (deref [] (c7)).bind fun p8 =>
    (cI .u8 p8.1 p8.2).bind fun i9 =>
    cond (i9 != (IntKind.u8.wrap i4))
    (some ([.one (Cell.int (-1))], []))
    (laws_heldByteS_l0 k m n (c3) (IntKind.i64.wrap (i4 + 1)) (IntKind.i64.wrap (i5 + 1))))
    (some ([.one (Cell.int i4)], []))
noncomputable def laws_heldByteS (k m : Nat) (c1 : Cell) (i2 : Int) : Option Res :=
  laws_heldByteS_l0 k m m (c1) i2 0
noncomputable abbrev laws_heldByteS_l0_B (k m : Nat) : (Ex → Fr → Option Res) → Fr → Option Res := evC G_laws_heldByteS fi_laws_heldByteS (evF G_laws_heldByteS (k + 1)) m (sub [1, 0, 1, 2, 3] fi_laws_heldByteS.code) none
noncomputable abbrev laws_heldByteS_l0_K (k m : Nat) : Ex → Fr → Option Res := blockK 0 (seqK (evC G_laws_heldByteS fi_laws_heldByteS (evF G_laws_heldByteS (k + 1)) m (sub [1, 1] fi_laws_heldByteS.code) none) (retK G_laws_heldByteS fi_laws_heldByteS))
theorem laws_heldByteS_l0_eq (k m : Nat) : ∀ (n : Nat) (c3 : Cell) (i4 : Int) (i5 : Int), loopK (some [0, 1, 5]) (laws_heldByteS_l0_B k m) (laws_heldByteS_l0_K k m) n ⟨fT 22 0 [(0, .av (.one (c3))), (1, .av (.one (Cell.int i4))), (5, .av (.one (Cell.int i5)))], fX 22 0 [], []⟩ = laws_heldByteS_l0 (k + 1) m n c3 i4 i5 := by
  intro n
  induction n with
  | zero => intros; rfl
  | succ n ih =>
    intros
    simp only [laws_heldByteS_l0, ← ih]
    kernel_rfl
theorem laws_heldByteS_code (k m : Nat) (c1 : Cell) (i2 : Int) : evC G_laws_heldByteS fi_laws_heldByteS (evF G_laws_heldByteS (k + 1)) m fi_laws_heldByteS.code none (retK G_laws_heldByteS fi_laws_heldByteS) (enter fi_laws_heldByteS [.one (c1), .one (Cell.int i2)] []) = laws_heldByteS (k + 1) m c1 i2 := by
  simp only [laws_heldByteS, ← laws_heldByteS_l0_eq k m]
  kernel_rfl
theorem laws_heldByteS_eq (k : Nat) (c1 : Cell) (i2 : Int) : evF G_laws_heldByteS (k + 2) fid_laws_heldByteS [.one (c1), .one (Cell.int i2)] [] = laws_heldByteS (k + 1) (k + 1) c1 i2 :=
  Eq.trans (by kernel_rfl) (laws_heldByteS_code k (k + 1) c1 i2)
theorem run_laws_heldByteS_of {c1 : Cell} {i2 : Int} {r : Res} (k : Nat) (h : laws_heldByteS (k + 1) (k + 1) c1 i2 = some r) : run_laws_heldByteS [.one (c1), .one (Cell.int i2)] [] = some r := lim_of ((laws_heldByteS_eq k c1 i2).trans h)
noncomputable def pl_laws_szFile : List (Nat × Run) := []
noncomputable def G_laws_szFile : Ctx := ctx tyTab fiTab pl_laws_szFile
noncomputable def run_laws_szFile : Run := lim G_laws_szFile fid_laws_szFile
theorem ok_laws_szFile : FnOk Tryd.prog OkT fid_laws_szFile run_laws_szFile := lim_ok (l := pl_laws_szFile) Tryd_mix tyTab_ok fiTab_ok okT .nil fid_laws_szFile
noncomputable def laws_szFile (k m : Nat) (s1 : ByteArray) (s2 : ByteArray) (i3 : Int) : Option Res :=
  cond (decide ((IntKind.i64.wrap (i3 - (s1.size : Int))) < 0))
  (some ([.one (Cell.int (-1))], []))
  (cond (decide ((IntKind.i64.wrap ((IntKind.i64.wrap (i3 - (s1.size : Int))) - (s2.size : Int))) < 0))
  (some ([.one (Cell.int (-1))], []))
  (some ([.one (Cell.int (IntKind.i64.wrap ((IntKind.i64.wrap (i3 - (s1.size : Int))) - (s2.size : Int))))], [])))
theorem laws_szFile_code (k m : Nat) (s1 : ByteArray) (s2 : ByteArray) (i3 : Int) : evC G_laws_szFile fi_laws_szFile (evF G_laws_szFile (k + 1)) m fi_laws_szFile.code none (retK G_laws_szFile fi_laws_szFile) (enter fi_laws_szFile [.agg [Cell.str s1, Cell.str s2], .one (Cell.int i3)] []) = laws_szFile (k + 1) m s1 s2 i3 := by
  kernel_rfl
theorem laws_szFile_eq (k : Nat) (s1 : ByteArray) (s2 : ByteArray) (i3 : Int) : evF G_laws_szFile (k + 2) fid_laws_szFile [.agg [Cell.str s1, Cell.str s2], .one (Cell.int i3)] [] = laws_szFile (k + 1) (k + 1) s1 s2 i3 :=
  Eq.trans (by kernel_rfl) (laws_szFile_code k (k + 1) s1 s2 i3)
theorem run_laws_szFile_of {s1 : ByteArray} {s2 : ByteArray} {i3 : Int} {r : Res} (k : Nat) (h : laws_szFile (k + 1) (k + 1) s1 s2 i3 = some r) : run_laws_szFile [.agg [Cell.str s1, Cell.str s2], .one (Cell.int i3)] [] = some r := lim_of ((laws_szFile_eq k s1 s2 i3).trans h)
noncomputable def pl_laws_szFileS : List (Nat × Run) := [(fid_laws_szFile, run_laws_szFile)]
noncomputable def G_laws_szFileS : Ctx := ctx tyTab fiTab pl_laws_szFileS
noncomputable def run_laws_szFileS : Run := lim G_laws_szFileS fid_laws_szFileS
theorem ok_laws_szFileS : FnOk Tryd.prog OkT fid_laws_szFileS run_laws_szFileS := lim_ok (l := pl_laws_szFileS) Tryd_mix tyTab_ok fiTab_ok okT (.cons ok_laws_szFile .nil) fid_laws_szFileS
noncomputable def laws_szFileS_l0 (k m : Nat) : Nat → Cell → Int → Int → Option Res
  | 0, _, _, _ => none
  | n + 1, c4, i5, i6 =>
    (lenC c4).bind fun n7 =>
    cond (decide (i6 < (n7 : Int)))
    ((idxA 2 (c4) i6).bind fun c8 =>
    (deref [] (c8)).bind fun p9 =>
    (cS p9.1 p9.2).bind fun s10 =>
    (cS p9.1 (p9.2 + 1)).bind fun s11 =>
    (callS run_laws_szFile [.agg [Cell.str s10, Cell.str s11], .one (Cell.int i5)] []).bind fun r12 =>
    cond (shapeOk rk_laws_szFile r12)
    ((cI .i64 (cellsAt r12 0) 0).bind fun i13 =>
    cond (decide (i13 < 0))
    (some ([.one (Cell.int (-1))], []))
    (laws_szFileS_l0 k m n (c4) i13 (IntKind.i64.wrap (i6 + 1))))
    none)
    (some ([.one (Cell.int i5)], []))
noncomputable def laws_szFileS (k m : Nat) (c1 : Cell) (i2 : Int) : Option Res :=
  (lenC c1).bind fun n3 =>
  cond (decide ((IntKind.i64.wrap (i2 - (n3 : Int))) < 0))
  (some ([.one (Cell.int (-1))], []))
  (laws_szFileS_l0 k m m (c1) (IntKind.i64.wrap (i2 - (n3 : Int))) 0)
noncomputable abbrev laws_szFileS_l0_B (k m : Nat) : (Ex → Fr → Option Res) → Fr → Option Res := evC G_laws_szFileS fi_laws_szFileS (evF G_laws_szFileS (k + 1)) m (sub [1, 1, 1, 0, 1, 2, 3] fi_laws_szFileS.code) none
noncomputable abbrev laws_szFileS_l0_K (k m : Nat) : Ex → Fr → Option Res := blockK 0 (seqK (evC G_laws_szFileS fi_laws_szFileS (evF G_laws_szFileS (k + 1)) m (sub [1, 1, 1, 1] fi_laws_szFileS.code) none) (retK G_laws_szFileS fi_laws_szFileS))
theorem laws_szFileS_l0_eq (k m : Nat) : ∀ (n : Nat) (c4 : Cell) (i5 : Int) (i6 : Int), loopK (some [0, 1, 5]) (laws_szFileS_l0_B k m) (laws_szFileS_l0_K k m) n ⟨fT 27 0 [(0, .av (.one (c4))), (1, .av (.one (Cell.int i5))), (5, .av (.one (Cell.int i6)))], fX 27 0 [], []⟩ = laws_szFileS_l0 (k + 1) m n c4 i5 i6 := by
  intro n
  induction n with
  | zero => intros; rfl
  | succ n ih =>
    intros
    simp only [laws_szFileS_l0, ← ih]
    kernel_rfl
theorem laws_szFileS_code (k m : Nat) (c1 : Cell) (i2 : Int) : evC G_laws_szFileS fi_laws_szFileS (evF G_laws_szFileS (k + 1)) m fi_laws_szFileS.code none (retK G_laws_szFileS fi_laws_szFileS) (enter fi_laws_szFileS [.one (c1), .one (Cell.int i2)] []) = laws_szFileS (k + 1) m c1 i2 := by
  simp only [laws_szFileS, ← laws_szFileS_l0_eq k m]
  kernel_rfl
theorem laws_szFileS_eq (k : Nat) (c1 : Cell) (i2 : Int) : evF G_laws_szFileS (k + 2) fid_laws_szFileS [.one (c1), .one (Cell.int i2)] [] = laws_szFileS (k + 1) (k + 1) c1 i2 :=
  Eq.trans (by kernel_rfl) (laws_szFileS_code k (k + 1) c1 i2)
theorem run_laws_szFileS_of {c1 : Cell} {i2 : Int} {r : Res} (k : Nat) (h : laws_szFileS (k + 1) (k + 1) c1 i2 = some r) : run_laws_szFileS [.one (c1), .one (Cell.int i2)] [] = some r := lim_of ((laws_szFileS_eq k c1 i2).trans h)
noncomputable def pl_laws_szStringS : List (Nat × Run) := []
noncomputable def G_laws_szStringS : Ctx := ctx tyTab fiTab pl_laws_szStringS
noncomputable def run_laws_szStringS : Run := lim G_laws_szStringS fid_laws_szStringS
theorem ok_laws_szStringS : FnOk Tryd.prog OkT fid_laws_szStringS run_laws_szStringS := lim_ok (l := pl_laws_szStringS) Tryd_mix tyTab_ok fiTab_ok okT .nil fid_laws_szStringS
noncomputable def laws_szStringS_l0 (k m : Nat) : Nat → Cell → Int → Int → Option Res
  | 0, _, _, _ => none
  | n + 1, c4, i5, i6 =>
    (lenC c4).bind fun n7 =>
    cond (decide (i6 < (n7 : Int)))
    ((idxA 1 (c4) i6).bind fun c8 =>
    (deref [] (c8)).bind fun p9 =>
    (cS p9.1 p9.2).bind fun s10 =>
    cond (decide ((IntKind.i64.wrap (i5 - (s10.size : Int))) < 0))
    (some ([.one (Cell.int (-1))], []))
    (laws_szStringS_l0 k m n (c4) (IntKind.i64.wrap (i5 - (s10.size : Int))) (IntKind.i64.wrap (i6 + 1))))
    (some ([.one (Cell.int i5)], []))
noncomputable def laws_szStringS (k m : Nat) (c1 : Cell) (i2 : Int) : Option Res :=
  (lenC c1).bind fun n3 =>
  cond (decide ((IntKind.i64.wrap (i2 - (n3 : Int))) < 0))
  (some ([.one (Cell.int (-1))], []))
  (laws_szStringS_l0 k m m (c1) (IntKind.i64.wrap (i2 - (n3 : Int))) 0)
noncomputable abbrev laws_szStringS_l0_B (k m : Nat) : (Ex → Fr → Option Res) → Fr → Option Res := evC G_laws_szStringS fi_laws_szStringS (evF G_laws_szStringS (k + 1)) m (sub [1, 1, 1, 0, 1, 2, 3] fi_laws_szStringS.code) none
noncomputable abbrev laws_szStringS_l0_K (k m : Nat) : Ex → Fr → Option Res := blockK 0 (seqK (evC G_laws_szStringS fi_laws_szStringS (evF G_laws_szStringS (k + 1)) m (sub [1, 1, 1, 1] fi_laws_szStringS.code) none) (retK G_laws_szStringS fi_laws_szStringS))
theorem laws_szStringS_l0_eq (k m : Nat) : ∀ (n : Nat) (c4 : Cell) (i5 : Int) (i6 : Int), loopK (some [0, 1, 5]) (laws_szStringS_l0_B k m) (laws_szStringS_l0_K k m) n ⟨fT 28 0 [(0, .av (.one (c4))), (1, .av (.one (Cell.int i5))), (5, .av (.one (Cell.int i6)))], fX 28 0 [], []⟩ = laws_szStringS_l0 (k + 1) m n c4 i5 i6 := by
  intro n
  induction n with
  | zero => intros; rfl
  | succ n ih =>
    intros
    simp only [laws_szStringS_l0, ← ih]
    kernel_rfl
theorem laws_szStringS_code (k m : Nat) (c1 : Cell) (i2 : Int) : evC G_laws_szStringS fi_laws_szStringS (evF G_laws_szStringS (k + 1)) m fi_laws_szStringS.code none (retK G_laws_szStringS fi_laws_szStringS) (enter fi_laws_szStringS [.one (c1), .one (Cell.int i2)] []) = laws_szStringS (k + 1) m c1 i2 := by
  simp only [laws_szStringS, ← laws_szStringS_l0_eq k m]
  kernel_rfl
theorem laws_szStringS_eq (k : Nat) (c1 : Cell) (i2 : Int) : evF G_laws_szStringS (k + 2) fid_laws_szStringS [.one (c1), .one (Cell.int i2)] [] = laws_szStringS (k + 1) (k + 1) c1 i2 :=
  Eq.trans (by kernel_rfl) (laws_szStringS_code k (k + 1) c1 i2)
theorem run_laws_szStringS_of {c1 : Cell} {i2 : Int} {r : Res} (k : Nat) (h : laws_szStringS (k + 1) (k + 1) c1 i2 = some r) : run_laws_szStringS [.one (c1), .one (Cell.int i2)] [] = some r := lim_of ((laws_szStringS_eq k c1 i2).trans h)
noncomputable def pl_laws_szEnv : List (Nat × Run) := []
noncomputable def G_laws_szEnv : Ctx := ctx tyTab fiTab pl_laws_szEnv
noncomputable def run_laws_szEnv : Run := lim G_laws_szEnv fid_laws_szEnv
theorem ok_laws_szEnv : FnOk Tryd.prog OkT fid_laws_szEnv run_laws_szEnv := lim_ok (l := pl_laws_szEnv) Tryd_mix tyTab_ok fiTab_ok okT .nil fid_laws_szEnv
noncomputable def laws_szEnv (k m : Nat) (s1 : ByteArray) (s2 : ByteArray) (i3 : Int) : Option Res :=
  cond (decide ((IntKind.i64.wrap (i3 - (s1.size : Int))) < 0))
  (some ([.one (Cell.int (-1))], []))
  (cond (decide ((IntKind.i64.wrap ((IntKind.i64.wrap (i3 - (s1.size : Int))) - (s2.size : Int))) < 0))
  (some ([.one (Cell.int (-1))], []))
  (some ([.one (Cell.int (IntKind.i64.wrap ((IntKind.i64.wrap (i3 - (s1.size : Int))) - (s2.size : Int))))], [])))
theorem laws_szEnv_code (k m : Nat) (s1 : ByteArray) (s2 : ByteArray) (i3 : Int) : evC G_laws_szEnv fi_laws_szEnv (evF G_laws_szEnv (k + 1)) m fi_laws_szEnv.code none (retK G_laws_szEnv fi_laws_szEnv) (enter fi_laws_szEnv [.agg [Cell.str s1, Cell.str s2], .one (Cell.int i3)] []) = laws_szEnv (k + 1) m s1 s2 i3 := by
  kernel_rfl
theorem laws_szEnv_eq (k : Nat) (s1 : ByteArray) (s2 : ByteArray) (i3 : Int) : evF G_laws_szEnv (k + 2) fid_laws_szEnv [.agg [Cell.str s1, Cell.str s2], .one (Cell.int i3)] [] = laws_szEnv (k + 1) (k + 1) s1 s2 i3 :=
  Eq.trans (by kernel_rfl) (laws_szEnv_code k (k + 1) s1 s2 i3)
theorem run_laws_szEnv_of {s1 : ByteArray} {s2 : ByteArray} {i3 : Int} {r : Res} (k : Nat) (h : laws_szEnv (k + 1) (k + 1) s1 s2 i3 = some r) : run_laws_szEnv [.agg [Cell.str s1, Cell.str s2], .one (Cell.int i3)] [] = some r := lim_of ((laws_szEnv_eq k s1 s2 i3).trans h)
noncomputable def pl_laws_szEnvS : List (Nat × Run) := [(fid_laws_szEnv, run_laws_szEnv)]
noncomputable def G_laws_szEnvS : Ctx := ctx tyTab fiTab pl_laws_szEnvS
noncomputable def run_laws_szEnvS : Run := lim G_laws_szEnvS fid_laws_szEnvS
theorem ok_laws_szEnvS : FnOk Tryd.prog OkT fid_laws_szEnvS run_laws_szEnvS := lim_ok (l := pl_laws_szEnvS) Tryd_mix tyTab_ok fiTab_ok okT (.cons ok_laws_szEnv .nil) fid_laws_szEnvS
noncomputable def laws_szEnvS_l0 (k m : Nat) : Nat → Cell → Int → Int → Option Res
  | 0, _, _, _ => none
  | n + 1, c4, i5, i6 =>
    (lenC c4).bind fun n7 =>
    cond (decide (i6 < (n7 : Int)))
    ((idxA 2 (c4) i6).bind fun c8 =>
    (deref [] (c8)).bind fun p9 =>
    (cS p9.1 p9.2).bind fun s10 =>
    (cS p9.1 (p9.2 + 1)).bind fun s11 =>
    (callS run_laws_szEnv [.agg [Cell.str s10, Cell.str s11], .one (Cell.int i5)] []).bind fun r12 =>
    cond (shapeOk rk_laws_szEnv r12)
    ((cI .i64 (cellsAt r12 0) 0).bind fun i13 =>
    cond (decide (i13 < 0))
    (some ([.one (Cell.int (-1))], []))
    (laws_szEnvS_l0 k m n (c4) i13 (IntKind.i64.wrap (i6 + 1))))
    none)
    (some ([.one (Cell.int i5)], []))
noncomputable def laws_szEnvS (k m : Nat) (c1 : Cell) (i2 : Int) : Option Res :=
  (lenC c1).bind fun n3 =>
  cond (decide ((IntKind.i64.wrap (i2 - (n3 : Int))) < 0))
  (some ([.one (Cell.int (-1))], []))
  (laws_szEnvS_l0 k m m (c1) (IntKind.i64.wrap (i2 - (n3 : Int))) 0)
noncomputable abbrev laws_szEnvS_l0_B (k m : Nat) : (Ex → Fr → Option Res) → Fr → Option Res := evC G_laws_szEnvS fi_laws_szEnvS (evF G_laws_szEnvS (k + 1)) m (sub [1, 1, 1, 0, 1, 2, 3] fi_laws_szEnvS.code) none
noncomputable abbrev laws_szEnvS_l0_K (k m : Nat) : Ex → Fr → Option Res := blockK 0 (seqK (evC G_laws_szEnvS fi_laws_szEnvS (evF G_laws_szEnvS (k + 1)) m (sub [1, 1, 1, 1] fi_laws_szEnvS.code) none) (retK G_laws_szEnvS fi_laws_szEnvS))
theorem laws_szEnvS_l0_eq (k m : Nat) : ∀ (n : Nat) (c4 : Cell) (i5 : Int) (i6 : Int), loopK (some [0, 1, 5]) (laws_szEnvS_l0_B k m) (laws_szEnvS_l0_K k m) n ⟨fT 27 0 [(0, .av (.one (c4))), (1, .av (.one (Cell.int i5))), (5, .av (.one (Cell.int i6)))], fX 27 0 [], []⟩ = laws_szEnvS_l0 (k + 1) m n c4 i5 i6 := by
  intro n
  induction n with
  | zero => intros; rfl
  | succ n ih =>
    intros
    simp only [laws_szEnvS_l0, ← ih]
    kernel_rfl
theorem laws_szEnvS_code (k m : Nat) (c1 : Cell) (i2 : Int) : evC G_laws_szEnvS fi_laws_szEnvS (evF G_laws_szEnvS (k + 1)) m fi_laws_szEnvS.code none (retK G_laws_szEnvS fi_laws_szEnvS) (enter fi_laws_szEnvS [.one (c1), .one (Cell.int i2)] []) = laws_szEnvS (k + 1) m c1 i2 := by
  simp only [laws_szEnvS, ← laws_szEnvS_l0_eq k m]
  kernel_rfl
theorem laws_szEnvS_eq (k : Nat) (c1 : Cell) (i2 : Int) : evF G_laws_szEnvS (k + 2) fid_laws_szEnvS [.one (c1), .one (Cell.int i2)] [] = laws_szEnvS (k + 1) (k + 1) c1 i2 :=
  Eq.trans (by kernel_rfl) (laws_szEnvS_code k (k + 1) c1 i2)
theorem run_laws_szEnvS_of {c1 : Cell} {i2 : Int} {r : Res} (k : Nat) (h : laws_szEnvS (k + 1) (k + 1) c1 i2 = some r) : run_laws_szEnvS [.one (c1), .one (Cell.int i2)] [] = some r := lim_of ((laws_szEnvS_eq k c1 i2).trans h)
noncomputable def pl_laws_szMade : List (Nat × Run) := [(fid_laws_szFileS, run_laws_szFileS)]
noncomputable def G_laws_szMade : Ctx := ctx tyTab fiTab pl_laws_szMade
noncomputable def run_laws_szMade : Run := lim G_laws_szMade fid_laws_szMade
theorem ok_laws_szMade : FnOk Tryd.prog OkT fid_laws_szMade run_laws_szMade := lim_ok (l := pl_laws_szMade) Tryd_mix tyTab_ok fiTab_ok okT (.cons ok_laws_szFileS .nil) fid_laws_szMade
noncomputable def laws_szMade (k m : Nat) (s1 : ByteArray) (c2 : Cell) (s3 : ByteArray) (i4 : Int) : Option Res :=
  cond (decide ((IntKind.i64.wrap (i4 - (s1.size : Int))) < 0))
  (some ([.one (Cell.int (-1))], []))
  ((callS run_laws_szFileS [.one (c2), .one (Cell.int (IntKind.i64.wrap (i4 - (s1.size : Int))))] []).bind fun r5 =>
  cond (shapeOk rk_laws_szFileS r5)
  ((cI .i64 (cellsAt r5 0) 0).bind fun i6 =>
  cond (decide (i6 < 0))
  (some ([.one (Cell.int (-1))], []))
  (cond (decide ((IntKind.i64.wrap (i6 - (s3.size : Int))) < 0))
  (some ([.one (Cell.int (-1))], []))
  (some ([.one (Cell.int (IntKind.i64.wrap (i6 - (s3.size : Int))))], []))))
  none)
theorem laws_szMade_code (k m : Nat) (s1 : ByteArray) (c2 : Cell) (s3 : ByteArray) (i4 : Int) : evC G_laws_szMade fi_laws_szMade (evF G_laws_szMade (k + 1)) m fi_laws_szMade.code none (retK G_laws_szMade fi_laws_szMade) (enter fi_laws_szMade [.agg [Cell.str s1, c2, Cell.str s3], .one (Cell.int i4)] []) = laws_szMade (k + 1) m s1 c2 s3 i4 := by
  kernel_rfl
theorem laws_szMade_eq (k : Nat) (s1 : ByteArray) (c2 : Cell) (s3 : ByteArray) (i4 : Int) : evF G_laws_szMade (k + 2) fid_laws_szMade [.agg [Cell.str s1, c2, Cell.str s3], .one (Cell.int i4)] [] = laws_szMade (k + 1) (k + 1) s1 c2 s3 i4 :=
  Eq.trans (by kernel_rfl) (laws_szMade_code k (k + 1) s1 c2 s3 i4)
theorem run_laws_szMade_of {s1 : ByteArray} {c2 : Cell} {s3 : ByteArray} {i4 : Int} {r : Res} (k : Nat) (h : laws_szMade (k + 1) (k + 1) s1 c2 s3 i4 = some r) : run_laws_szMade [.agg [Cell.str s1, c2, Cell.str s3], .one (Cell.int i4)] [] = some r := lim_of ((laws_szMade_eq k s1 c2 s3 i4).trans h)
noncomputable def pl_laws_szMadeS : List (Nat × Run) := [(fid_laws_szMade, run_laws_szMade)]
noncomputable def G_laws_szMadeS : Ctx := ctx tyTab fiTab pl_laws_szMadeS
noncomputable def run_laws_szMadeS : Run := lim G_laws_szMadeS fid_laws_szMadeS
theorem ok_laws_szMadeS : FnOk Tryd.prog OkT fid_laws_szMadeS run_laws_szMadeS := lim_ok (l := pl_laws_szMadeS) Tryd_mix tyTab_ok fiTab_ok okT (.cons ok_laws_szMade .nil) fid_laws_szMadeS
noncomputable def laws_szMadeS_l0 (k m : Nat) : Nat → Cell → Int → Int → Option Res
  | 0, _, _, _ => none
  | n + 1, c4, i5, i6 =>
    (lenC c4).bind fun n7 =>
    cond (decide (i6 < (n7 : Int)))
    ((idxA 3 (c4) i6).bind fun c8 =>
    (deref [] (c8)).bind fun p9 =>
    (cS p9.1 p9.2).bind fun s10 =>
    (cC p9.1 (p9.2 + 1)).bind fun c11 =>
    (cS p9.1 ((p9.2 + 1) + 1)).bind fun s12 =>
    (callS run_laws_szMade [.agg [Cell.str s10, c11, Cell.str s12], .one (Cell.int i5)] []).bind fun r13 =>
    cond (shapeOk rk_laws_szMade r13)
    ((cI .i64 (cellsAt r13 0) 0).bind fun i14 =>
    cond (decide (i14 < 0))
    (some ([.one (Cell.int (-1))], []))
    (laws_szMadeS_l0 k m n (c4) i14 (IntKind.i64.wrap (i6 + 1))))
    none)
    (some ([.one (Cell.int i5)], []))
noncomputable def laws_szMadeS (k m : Nat) (c1 : Cell) (i2 : Int) : Option Res :=
  (lenC c1).bind fun n3 =>
  cond (decide ((IntKind.i64.wrap (i2 - (n3 : Int))) < 0))
  (some ([.one (Cell.int (-1))], []))
  (laws_szMadeS_l0 k m m (c1) (IntKind.i64.wrap (i2 - (n3 : Int))) 0)
noncomputable abbrev laws_szMadeS_l0_B (k m : Nat) : (Ex → Fr → Option Res) → Fr → Option Res := evC G_laws_szMadeS fi_laws_szMadeS (evF G_laws_szMadeS (k + 1)) m (sub [1, 1, 1, 0, 1, 2, 3] fi_laws_szMadeS.code) none
noncomputable abbrev laws_szMadeS_l0_K (k m : Nat) : Ex → Fr → Option Res := blockK 0 (seqK (evC G_laws_szMadeS fi_laws_szMadeS (evF G_laws_szMadeS (k + 1)) m (sub [1, 1, 1, 1] fi_laws_szMadeS.code) none) (retK G_laws_szMadeS fi_laws_szMadeS))
theorem laws_szMadeS_l0_eq (k m : Nat) : ∀ (n : Nat) (c4 : Cell) (i5 : Int) (i6 : Int), loopK (some [0, 1, 5]) (laws_szMadeS_l0_B k m) (laws_szMadeS_l0_K k m) n ⟨fT 27 0 [(0, .av (.one (c4))), (1, .av (.one (Cell.int i5))), (5, .av (.one (Cell.int i6)))], fX 27 0 [], []⟩ = laws_szMadeS_l0 (k + 1) m n c4 i5 i6 := by
  intro n
  induction n with
  | zero => intros; rfl
  | succ n ih =>
    intros
    simp only [laws_szMadeS_l0, ← ih]
    kernel_rfl
theorem laws_szMadeS_code (k m : Nat) (c1 : Cell) (i2 : Int) : evC G_laws_szMadeS fi_laws_szMadeS (evF G_laws_szMadeS (k + 1)) m fi_laws_szMadeS.code none (retK G_laws_szMadeS fi_laws_szMadeS) (enter fi_laws_szMadeS [.one (c1), .one (Cell.int i2)] []) = laws_szMadeS (k + 1) m c1 i2 := by
  simp only [laws_szMadeS, ← laws_szMadeS_l0_eq k m]
  kernel_rfl
theorem laws_szMadeS_eq (k : Nat) (c1 : Cell) (i2 : Int) : evF G_laws_szMadeS (k + 2) fid_laws_szMadeS [.one (c1), .one (Cell.int i2)] [] = laws_szMadeS (k + 1) (k + 1) c1 i2 :=
  Eq.trans (by kernel_rfl) (laws_szMadeS_code k (k + 1) c1 i2)
theorem run_laws_szMadeS_of {c1 : Cell} {i2 : Int} {r : Res} (k : Nat) (h : laws_szMadeS (k + 1) (k + 1) c1 i2 = some r) : run_laws_szMadeS [.one (c1), .one (Cell.int i2)] [] = some r := lim_of ((laws_szMadeS_eq k c1 i2).trans h)
noncomputable def pl_laws_szJob : List (Nat × Run) := [(fid_laws_szFileS, run_laws_szFileS), (fid_laws_szStringS, run_laws_szStringS), (fid_laws_szEnvS, run_laws_szEnvS), (fid_laws_szMadeS, run_laws_szMadeS)]
noncomputable def G_laws_szJob : Ctx := ctx tyTab fiTab pl_laws_szJob
noncomputable def run_laws_szJob : Run := lim G_laws_szJob fid_laws_szJob
theorem ok_laws_szJob : FnOk Tryd.prog OkT fid_laws_szJob run_laws_szJob := lim_ok (l := pl_laws_szJob) Tryd_mix tyTab_ok fiTab_ok okT (.cons ok_laws_szFileS (.cons ok_laws_szStringS (.cons ok_laws_szEnvS (.cons ok_laws_szMadeS .nil)))) fid_laws_szJob
noncomputable def laws_szJob (k m : Nat) (s1 : ByteArray) (c2 : Cell) (c3 : Cell) (c4 : Cell) (c5 : Cell) (i6 : Int) : Option Res :=
  cond (decide ((IntKind.i64.wrap (i6 - (s1.size : Int))) < 0))
  (some ([.one (Cell.int (-1))], []))
  ((callS run_laws_szStringS [.one (c2), .one (Cell.int (IntKind.i64.wrap (i6 - (s1.size : Int))))] []).bind fun r7 =>
  cond (shapeOk rk_laws_szStringS r7)
  ((cI .i64 (cellsAt r7 0) 0).bind fun i8 =>
  cond (decide (i8 < 0))
  (some ([.one (Cell.int (-1))], []))
  ((callS run_laws_szFileS [.one (c3), .one (Cell.int i8)] []).bind fun r9 =>
  cond (shapeOk rk_laws_szFileS r9)
  ((cI .i64 (cellsAt r9 0) 0).bind fun i10 =>
  cond (decide (i10 < 0))
  (some ([.one (Cell.int (-1))], []))
  ((callS run_laws_szEnvS [.one (c4), .one (Cell.int i10)] []).bind fun r11 =>
  cond (shapeOk rk_laws_szEnvS r11)
  ((cI .i64 (cellsAt r11 0) 0).bind fun i12 =>
  cond (decide (i12 < 0))
  (some ([.one (Cell.int (-1))], []))
  ((callS run_laws_szMadeS [.one (c5), .one (Cell.int i12)] []).bind fun r13 =>
  cond (shapeOk rk_laws_szMadeS r13)
  ((cI .i64 (cellsAt r13 0) 0).bind fun i14 =>
  cond (decide (i14 < 0))
  (some ([.one (Cell.int (-1))], []))
  (some ([.one (Cell.int i14)], [])))
  none))
  none))
  none))
  none)
theorem laws_szJob_code (k m : Nat) (s1 : ByteArray) (c2 : Cell) (c3 : Cell) (c4 : Cell) (c5 : Cell) (i6 : Int) : evC G_laws_szJob fi_laws_szJob (evF G_laws_szJob (k + 1)) m fi_laws_szJob.code none (retK G_laws_szJob fi_laws_szJob) (enter fi_laws_szJob [.agg [Cell.str s1, c2, c3, c4, c5], .one (Cell.int i6)] []) = laws_szJob (k + 1) m s1 c2 c3 c4 c5 i6 := by
  kernel_rfl
theorem laws_szJob_eq (k : Nat) (s1 : ByteArray) (c2 : Cell) (c3 : Cell) (c4 : Cell) (c5 : Cell) (i6 : Int) : evF G_laws_szJob (k + 2) fid_laws_szJob [.agg [Cell.str s1, c2, c3, c4, c5], .one (Cell.int i6)] [] = laws_szJob (k + 1) (k + 1) s1 c2 c3 c4 c5 i6 :=
  Eq.trans (by kernel_rfl) (laws_szJob_code k (k + 1) s1 c2 c3 c4 c5 i6)
theorem run_laws_szJob_of {s1 : ByteArray} {c2 : Cell} {c3 : Cell} {c4 : Cell} {c5 : Cell} {i6 : Int} {r : Res} (k : Nat) (h : laws_szJob (k + 1) (k + 1) s1 c2 c3 c4 c5 i6 = some r) : run_laws_szJob [.agg [Cell.str s1, c2, c3, c4, c5], .one (Cell.int i6)] [] = some r := lim_of ((laws_szJob_eq k s1 c2 c3 c4 c5 i6).trans h)
noncomputable def pl_spec_PutText : List (Nat × Run) := []
noncomputable def G_spec_PutText : Ctx := ctx tyTab fiTab pl_spec_PutText
noncomputable def run_spec_PutText : Run := lim G_spec_PutText fid_spec_PutText
theorem ok_spec_PutText : FnOk Tryd.prog OkT fid_spec_PutText run_spec_PutText := lim_ok (l := pl_spec_PutText) Tryd_mix tyTab_ok fiTab_ok okT .nil fid_spec_PutText
noncomputable def spec_PutText (k m : Nat) (c1 : Cell) (s2 : ByteArray) : Option Res :=
  (srcRows [] 1 c1).bind fun r3 =>
  (app [] 1 1 (.lst true 1 []) r3).bind fun p4 =>
  cond (decide ((s2.size : Int) > 60000))
  (some ([.one (p4.1)], p4.2))
  ((app p4.2 1 1 (p4.1) [[.sc (.int .u8 (IntKind.u8.wrap (shrI .i64 (s2.size : Int) 8)))], [.sc (.int .u8 (IntKind.u8.wrap (s2.size : Int)))]]).bind fun p5 =>
  (app p5.2 1 1 (p5.1) (byteRows s2)).bind fun p6 =>
  some ([.one (p6.1)], p6.2))
theorem spec_PutText_code (k m : Nat) (c1 : Cell) (s2 : ByteArray) : evC G_spec_PutText fi_spec_PutText (evF G_spec_PutText (k + 1)) m fi_spec_PutText.code none (retK G_spec_PutText fi_spec_PutText) (enter fi_spec_PutText [.one (c1), .one (Cell.str s2)] []) = spec_PutText (k + 1) m c1 s2 := by
  kernel_rfl
theorem spec_PutText_eq (k : Nat) (c1 : Cell) (s2 : ByteArray) : evF G_spec_PutText (k + 2) fid_spec_PutText [.one (c1), .one (Cell.str s2)] [] = spec_PutText (k + 1) (k + 1) c1 s2 :=
  Eq.trans (by kernel_rfl) (spec_PutText_code k (k + 1) c1 s2)
theorem run_spec_PutText_of {c1 : Cell} {s2 : ByteArray} {r : Res} (k : Nat) (h : spec_PutText (k + 1) (k + 1) c1 s2 = some r) : run_spec_PutText [.one (c1), .one (Cell.str s2)] [] = some r := lim_of ((spec_PutText_eq k c1 s2).trans h)
noncomputable def pl_spec_NumText : List (Nat × Run) := []
noncomputable def G_spec_NumText : Ctx := ctx tyTab fiTab pl_spec_NumText
noncomputable def run_spec_NumText : Run := lim G_spec_NumText fid_spec_NumText
theorem ok_spec_NumText : FnOk Tryd.prog OkT fid_spec_NumText run_spec_NumText := lim_ok (l := pl_spec_NumText) Tryd_mix tyTab_ok fiTab_ok okT .nil fid_spec_NumText
noncomputable def spec_NumText_l1 (k m : Nat) : Nat → Int → ByteArray → Option Res
  | 0, _, _ => none
  | n + 1, i5, s6 =>
    cond (decide (i5 > 9))
    ((bytesOf [] (.lst true 1 [[.sc (.int .u8 (IntKind.u8.wrap (IntKind.i64.wrap (48 + ((IntKind.i64.wrap (i5.tdiv 10)).tmod 10)))))]])).bind fun s7 =>
    (catS s7 s6).bind fun s8 =>
    spec_NumText_l1 k m n (IntKind.i64.wrap (i5.tdiv 10)) s8)
    (some ([.one (Cell.str s6)], []))
noncomputable def spec_NumText_l0 (k m : Nat) : Nat → ByteArray → Option Res
  | 0, _ => none
  | n + 1, s3 =>
    some ([.one (Cell.str s3)], [])
noncomputable def spec_NumText (k m : Nat) (i1 : Int) : Option Res :=
  cond (decide (i1 < 0))
  ((bytesOf [] (.lst true 1 [[.sc (.int .u8 (IntKind.u8.wrap (IntKind.i64.wrap (48 + ((0 : Int).tmod 10)))))]])).bind fun s2 =>
  spec_NumText_l0 k m m s2)
  ((bytesOf [] (.lst true 1 [[.sc (.int .u8 (IntKind.u8.wrap (IntKind.i64.wrap (48 + (i1.tmod 10)))))]])).bind fun s4 =>
  spec_NumText_l1 k m m i1 s4)
noncomputable abbrev spec_NumText_l0_B (k m : Nat) : (Ex → Fr → Option Res) → Fr → Option Res := evC G_spec_NumText fi_spec_NumText (evF G_spec_NumText (k + 1)) m (sub [1, 1, 1, 0, 2, 3] fi_spec_NumText.code) none
noncomputable abbrev spec_NumText_l0_K (k m : Nat) : Ex → Fr → Option Res := blockK 0 (seqK (evC G_spec_NumText fi_spec_NumText (evF G_spec_NumText (k + 1)) m (sub [1, 1, 1, 1] fi_spec_NumText.code) none) (retK G_spec_NumText fi_spec_NumText))
noncomputable abbrev spec_NumText_l1_B (k m : Nat) : (Ex → Fr → Option Res) → Fr → Option Res := evC G_spec_NumText fi_spec_NumText (evF G_spec_NumText (k + 1)) m (sub [1, 1, 1, 0, 2, 3] fi_spec_NumText.code) none
noncomputable abbrev spec_NumText_l1_K (k m : Nat) : Ex → Fr → Option Res := blockK 0 (seqK (evC G_spec_NumText fi_spec_NumText (evF G_spec_NumText (k + 1)) m (sub [1, 1, 1, 1] fi_spec_NumText.code) none) (retK G_spec_NumText fi_spec_NumText))
theorem spec_NumText_l1_eq (k m : Nat) : ∀ (n : Nat) (i5 : Int) (s6 : ByteArray), loopK (some [0, 3]) (spec_NumText_l0_B k m) (spec_NumText_l0_K k m) n ⟨fT 25 0 [(0, .av (.one (Cell.int i5))), (3, .av (.one (Cell.str s6)))], fX 25 0 [], []⟩ = spec_NumText_l1 (k + 1) m n i5 s6 := by
  intro n
  induction n with
  | zero => intros; rfl
  | succ n ih =>
    intros
    simp only [spec_NumText_l1, ← ih]
    kernel_rfl
theorem spec_NumText_l0_eq (k m : Nat) : ∀ (n : Nat) (s3 : ByteArray), loopK (some [0, 3]) (spec_NumText_l0_B k m) (spec_NumText_l0_K k m) n ⟨fT 25 0 [(0, .av (.one (Cell.int 0))), (3, .av (.one (Cell.str s3)))], fX 25 0 [], []⟩ = spec_NumText_l0 (k + 1) m n s3 := by
  intro n
  induction n with
  | zero => intros; rfl
  | succ n ih =>
    intros
    simp only [spec_NumText_l0]
    kernel_rfl
theorem spec_NumText_code (k m : Nat) (i1 : Int) : evC G_spec_NumText fi_spec_NumText (evF G_spec_NumText (k + 1)) m fi_spec_NumText.code none (retK G_spec_NumText fi_spec_NumText) (enter fi_spec_NumText [.one (Cell.int i1)] []) = spec_NumText (k + 1) m i1 := by
  simp only [spec_NumText, ← spec_NumText_l0_eq k m, ← spec_NumText_l1_eq k m]
  kernel_rfl
theorem spec_NumText_eq (k : Nat) (i1 : Int) : evF G_spec_NumText (k + 2) fid_spec_NumText [.one (Cell.int i1)] [] = spec_NumText (k + 1) (k + 1) i1 :=
  Eq.trans (by kernel_rfl) (spec_NumText_code k (k + 1) i1)
theorem run_spec_NumText_of {i1 : Int} {r : Res} (k : Nat) (h : spec_NumText (k + 1) (k + 1) i1 = some r) : run_spec_NumText [.one (Cell.int i1)] [] = some r := lim_of ((spec_NumText_eq k i1).trans h)
noncomputable def pl_spec_l16Count : List (Nat × Run) := [(fid_spec_PutText, run_spec_PutText), (fid_spec_NumText, run_spec_NumText)]
noncomputable def G_spec_l16Count : Ctx := ctx tyTab fiTab pl_spec_l16Count
noncomputable def run_spec_l16Count : Run := lim G_spec_l16Count fid_spec_l16Count
theorem ok_spec_l16Count : FnOk Tryd.prog OkT fid_spec_l16Count run_spec_l16Count := lim_ok (l := pl_spec_l16Count) Tryd_mix tyTab_ok fiTab_ok okT (.cons ok_spec_PutText (.cons ok_spec_NumText .nil)) fid_spec_l16Count
noncomputable def spec_l16Count (k m : Nat) (c1 : Cell) (i2 : Int) : Option Res :=
  (callS run_spec_NumText [.one (Cell.int i2)] []).bind fun r3 =>
  cond (shapeOk rk_spec_NumText r3)
  ((cS (cellsAt r3 0) 0).bind fun s4 =>
  (callF run_spec_PutText [.one (c1), .one (Cell.str s4)] []).bind fun r5 =>
  cond (shapeOk rk_spec_PutText r5.1)
  ((cC (cellsAt r5.1 0) 0).bind fun c6 =>
  some ([.one (c6)], r5.2))
  none)
  none
theorem spec_l16Count_code (k m : Nat) (c1 : Cell) (i2 : Int) : evC G_spec_l16Count fi_spec_l16Count (evF G_spec_l16Count (k + 1)) m fi_spec_l16Count.code none (retK G_spec_l16Count fi_spec_l16Count) (enter fi_spec_l16Count [.one (c1), .one (Cell.int i2)] []) = spec_l16Count (k + 1) m c1 i2 := by
  kernel_rfl
theorem spec_l16Count_eq (k : Nat) (c1 : Cell) (i2 : Int) : evF G_spec_l16Count (k + 2) fid_spec_l16Count [.one (c1), .one (Cell.int i2)] [] = spec_l16Count (k + 1) (k + 1) c1 i2 :=
  Eq.trans (by kernel_rfl) (spec_l16Count_code k (k + 1) c1 i2)
theorem run_spec_l16Count_of {c1 : Cell} {i2 : Int} {r : Res} (k : Nat) (h : spec_l16Count (k + 1) (k + 1) c1 i2 = some r) : run_spec_l16Count [.one (c1), .one (Cell.int i2)] [] = some r := lim_of ((spec_l16Count_eq k c1 i2).trans h)
noncomputable def pl_spec_l16Files : List (Nat × Run) := [(fid_spec_PutText, run_spec_PutText), (fid_spec_l16Count, run_spec_l16Count)]
noncomputable def G_spec_l16Files : Ctx := ctx tyTab fiTab pl_spec_l16Files
noncomputable def run_spec_l16Files : Run := lim G_spec_l16Files fid_spec_l16Files
theorem ok_spec_l16Files : FnOk Tryd.prog OkT fid_spec_l16Files run_spec_l16Files := lim_ok (l := pl_spec_l16Files) Tryd_mix tyTab_ok fiTab_ok okT (.cons ok_spec_PutText (.cons ok_spec_l16Count .nil)) fid_spec_l16Files
noncomputable def spec_l16Files_l0 (k m : Nat) : Nat → Cell → Cell → Int → List Entry → Option Res
  | 0, _, _, _, _ => none
  | n + 1, c6, c7, i8, H9 =>
    (lenC c7).bind fun n10 =>
    cond (decide (i8 < (n10 : Int)))
    ((idxA 2 (c7) i8).bind fun c11 =>
    (fldA c11 0).bind fun c12 =>
    (deref H9 (c12)).bind fun p13 =>
    (cS p13.1 p13.2).bind fun s14 =>
    (callF run_spec_PutText [.one (c6), .one (Cell.str s14)] H9).bind fun r15 =>
    cond (shapeOk rk_spec_PutText r15.1)
    ((cC (cellsAt r15.1 0) 0).bind fun c16 =>
    (idxA 2 (c7) i8).bind fun c17 =>
    (fldA c17 1).bind fun c18 =>
    (deref [] (c18)).bind fun p19 =>
    (cS p19.1 p19.2).bind fun s20 =>
    (callF run_spec_PutText [.one (c16), .one (Cell.str s20)] r15.2).bind fun r21 =>
    cond (shapeOk rk_spec_PutText r21.1)
    ((cC (cellsAt r21.1 0) 0).bind fun c22 =>
    spec_l16Files_l0 k m n (c22) (c7) (IntKind.i64.wrap (i8 + 1)) r21.2)
    none)
    none)
    (some ([.one (c6)], H9))
noncomputable def spec_l16Files (k m : Nat) (c1 : Cell) (c2 : Cell) : Option Res :=
  (lenC c2).bind fun n3 =>
  (callF run_spec_l16Count [.one (c1), .one (Cell.int (n3 : Int))] []).bind fun r4 =>
  cond (shapeOk rk_spec_l16Count r4.1)
  ((cC (cellsAt r4.1 0) 0).bind fun c5 =>
  spec_l16Files_l0 k m m (c5) (c2) 0 r4.2)
  none
noncomputable abbrev spec_l16Files_l0_B (k m : Nat) : (Ex → Fr → Option Res) → Fr → Option Res := evC G_spec_l16Files fi_spec_l16Files (evF G_spec_l16Files (k + 1)) m (sub [1, 1, 0, 1, 2, 3] fi_spec_l16Files.code) none
noncomputable abbrev spec_l16Files_l0_K (k m : Nat) : Ex → Fr → Option Res := blockK 0 (seqK (evC G_spec_l16Files fi_spec_l16Files (evF G_spec_l16Files (k + 1)) m (sub [1, 1, 1] fi_spec_l16Files.code) none) (retK G_spec_l16Files fi_spec_l16Files))
theorem spec_l16Files_l0_eq (k m : Nat) : ∀ (n : Nat) (c6 : Cell) (c7 : Cell) (i8 : Int) (H9 : List Entry), loopK (some [0, 1, 5]) (spec_l16Files_l0_B k m) (spec_l16Files_l0_K k m) n ⟨fT 30 0 [(0, .av (.one (c6))), (1, .av (.one (c7))), (5, .av (.one (Cell.int i8)))], fX 30 0 [], H9⟩ = spec_l16Files_l0 (k + 1) m n c6 c7 i8 H9 := by
  intro n
  induction n with
  | zero => intros; rfl
  | succ n ih =>
    intros
    simp only [spec_l16Files_l0, ← ih]
    kernel_rfl
theorem spec_l16Files_code (k m : Nat) (c1 : Cell) (c2 : Cell) : evC G_spec_l16Files fi_spec_l16Files (evF G_spec_l16Files (k + 1)) m fi_spec_l16Files.code none (retK G_spec_l16Files fi_spec_l16Files) (enter fi_spec_l16Files [.one (c1), .one (c2)] []) = spec_l16Files (k + 1) m c1 c2 := by
  simp only [spec_l16Files, ← spec_l16Files_l0_eq k m]
  kernel_rfl
theorem spec_l16Files_eq (k : Nat) (c1 : Cell) (c2 : Cell) : evF G_spec_l16Files (k + 2) fid_spec_l16Files [.one (c1), .one (c2)] [] = spec_l16Files (k + 1) (k + 1) c1 c2 :=
  Eq.trans (by kernel_rfl) (spec_l16Files_code k (k + 1) c1 c2)
theorem run_spec_l16Files_of {c1 : Cell} {c2 : Cell} {r : Res} (k : Nat) (h : spec_l16Files (k + 1) (k + 1) c1 c2 = some r) : run_spec_l16Files [.one (c1), .one (c2)] [] = some r := lim_of ((spec_l16Files_eq k c1 c2).trans h)
noncomputable def pl_spec_KeyOf : List (Nat × Run) := [(fid_spec_l16Files, run_spec_l16Files), (fid_spec_PutText, run_spec_PutText), (fid_spec_l16Count, run_spec_l16Count)]
noncomputable def G_spec_KeyOf : Ctx := ctx tyTab fiTab pl_spec_KeyOf
noncomputable def run_spec_KeyOf : Run := lim G_spec_KeyOf fid_spec_KeyOf
theorem ok_spec_KeyOf : FnOk Tryd.prog OkT fid_spec_KeyOf run_spec_KeyOf := lim_ok (l := pl_spec_KeyOf) Tryd_mix tyTab_ok fiTab_ok okT (.cons ok_spec_l16Files (.cons ok_spec_PutText (.cons ok_spec_l16Count .nil))) fid_spec_KeyOf
noncomputable def spec_KeyOf_l2 (k m : Nat) : Nat → Cell → Int → ByteArray → Cell → Cell → Cell → Cell → List Entry → Option Res
  | 0, _, _, _, _, _, _, _, _ => none
  | n + 1, c54, i55, s56, c57, c58, c59, c60, H61 =>
    (lenC c60).bind fun n62 =>
    cond (decide (i55 < (n62 : Int)))
    ((idxA 3 (c60) i55).bind fun c63 =>
    (fldA c63 0).bind fun c64 =>
    (deref H61 (c64)).bind fun p65 =>
    (cS p65.1 p65.2).bind fun s66 =>
    (callF run_spec_PutText [.one (c54), .one (Cell.str s66)] H61).bind fun r67 =>
    cond (shapeOk rk_spec_PutText r67.1)
    ((cC (cellsAt r67.1 0) 0).bind fun c68 =>
    (idxA 3 (c60) i55).bind fun c69 =>
    (fldA c69 2).bind fun c70 =>
    (deref [] (c70)).bind fun p71 =>
    (cS p71.1 p71.2).bind fun s72 =>
    (callF run_spec_PutText [.one (c68), .one (Cell.str s72)] r67.2).bind fun r73 =>
    cond (shapeOk rk_spec_PutText r73.1)
    ((cC (cellsAt r73.1 0) 0).bind fun c74 =>
    (idxA 3 (c60) i55).bind fun c75 =>
    (fldA c75 1).bind fun c76 =>
    (deref [] (c76)).bind fun p77 =>
    (cC p77.1 p77.2).bind fun c78 =>
    (callF run_spec_l16Files [.one (c74), .one (c78)] r73.2).bind fun r79 =>
    cond (shapeOk rk_spec_l16Files r79.1)
    ((cC (cellsAt r79.1 0) 0).bind fun c80 =>
    spec_KeyOf_l2 k m n (c80) (IntKind.i64.wrap (i55 + 1)) s56 (c57) (c58) (c59) (c60) r79.2)
    none)
    none)
    none)
    (some ([.one (c54)], H61))
noncomputable def spec_KeyOf_l1 (k m : Nat) : Nat → Cell → Int → ByteArray → Cell → Cell → Cell → Cell → List Entry → Option Res
  | 0, _, _, _, _, _, _, _, _ => none
  | n + 1, c30, i31, s32, c33, c34, c35, c36, H37 =>
    (lenC c35).bind fun n38 =>
    cond (decide (i31 < (n38 : Int)))
    ((idxA 2 (c35) i31).bind fun c39 =>
    (fldA c39 0).bind fun c40 =>
    (deref H37 (c40)).bind fun p41 =>
    (cS p41.1 p41.2).bind fun s42 =>
    (callF run_spec_PutText [.one (c30), .one (Cell.str s42)] H37).bind fun r43 =>
    cond (shapeOk rk_spec_PutText r43.1)
    ((cC (cellsAt r43.1 0) 0).bind fun c44 =>
    (idxA 2 (c35) i31).bind fun c45 =>
    (fldA c45 1).bind fun c46 =>
    (deref [] (c46)).bind fun p47 =>
    (cS p47.1 p47.2).bind fun s48 =>
    (callF run_spec_PutText [.one (c44), .one (Cell.str s48)] r43.2).bind fun r49 =>
    cond (shapeOk rk_spec_PutText r49.1)
    ((cC (cellsAt r49.1 0) 0).bind fun c50 =>
    spec_KeyOf_l1 k m n (c50) (IntKind.i64.wrap (i31 + 1)) s32 (c33) (c34) (c35) (c36) r49.2)
    none)
    none)
    ((lenC c36).bind fun n51 =>
    (callF run_spec_l16Count [.one (c30), .one (Cell.int (n51 : Int))] H37).bind fun r52 =>
    cond (shapeOk rk_spec_l16Count r52.1)
    ((cC (cellsAt r52.1 0) 0).bind fun c53 =>
    spec_KeyOf_l2 k m m (c53) 0 s32 (c33) (c34) (c35) (c36) r52.2)
    none)
noncomputable def spec_KeyOf_l0 (k m : Nat) : Nat → Cell → Int → ByteArray → Cell → Cell → Cell → Cell → List Entry → Option Res
  | 0, _, _, _, _, _, _, _, _ => none
  | n + 1, c11, i12, s13, c14, c15, c16, c17, H18 =>
    (lenC c14).bind fun n19 =>
    cond (decide (i12 < (n19 : Int)))
    ((idxA 1 (c14) i12).bind fun c20 =>
    (deref H18 (c20)).bind fun p21 =>
    (cS p21.1 p21.2).bind fun s22 =>
    (callF run_spec_PutText [.one (c11), .one (Cell.str s22)] H18).bind fun r23 =>
    cond (shapeOk rk_spec_PutText r23.1)
    ((cC (cellsAt r23.1 0) 0).bind fun c24 =>
    spec_KeyOf_l0 k m n (c24) (IntKind.i64.wrap (i12 + 1)) s13 (c14) (c15) (c16) (c17) r23.2)
    none)
    ((callF run_spec_l16Files [.one (c11), .one (c15)] H18).bind fun r25 =>
    cond (shapeOk rk_spec_l16Files r25.1)
    ((cC (cellsAt r25.1 0) 0).bind fun c26 =>
    (lenC c16).bind fun n27 =>
    (callF run_spec_l16Count [.one (c26), .one (Cell.int (n27 : Int))] r25.2).bind fun r28 =>
    cond (shapeOk rk_spec_l16Count r28.1)
    ((cC (cellsAt r28.1 0) 0).bind fun c29 =>
    spec_KeyOf_l1 k m m (c29) 0 s13 (c14) (c15) (c16) (c17) r28.2)
    none)
    none)
noncomputable def spec_KeyOf (k m : Nat) (s1 : ByteArray) (c2 : Cell) (c3 : Cell) (c4 : Cell) (c5 : Cell) : Option Res :=
  (callF run_spec_PutText [.one (.lst true 1 []), .one (Cell.str s1)] []).bind fun r6 =>
  cond (shapeOk rk_spec_PutText r6.1)
  ((cC (cellsAt r6.1 0) 0).bind fun c7 =>
  (lenC c2).bind fun n8 =>
  (callF run_spec_l16Count [.one (c7), .one (Cell.int (n8 : Int))] r6.2).bind fun r9 =>
  cond (shapeOk rk_spec_l16Count r9.1)
  ((cC (cellsAt r9.1 0) 0).bind fun c10 =>
  spec_KeyOf_l0 k m m (c10) 0 s1 (c2) (c3) (c4) (c5) r9.2)
  none)
  none
noncomputable abbrev spec_KeyOf_l0_B (k m : Nat) : (Ex → Fr → Option Res) → Fr → Option Res := evC G_spec_KeyOf fi_spec_KeyOf (evF G_spec_KeyOf (k + 1)) m (sub [1, 1, 0, 1, 2, 3] fi_spec_KeyOf.code) none
noncomputable abbrev spec_KeyOf_l0_K (k m : Nat) : Ex → Fr → Option Res := blockK 0 (seqK (evC G_spec_KeyOf fi_spec_KeyOf (evF G_spec_KeyOf (k + 1)) m (sub [1, 1, 1] fi_spec_KeyOf.code) none) (retK G_spec_KeyOf fi_spec_KeyOf))
noncomputable abbrev spec_KeyOf_l1_B (k m : Nat) : (Ex → Fr → Option Res) → Fr → Option Res := evC G_spec_KeyOf fi_spec_KeyOf (evF G_spec_KeyOf (k + 1)) m (sub [1, 1, 1, 1, 0, 1, 2, 3] fi_spec_KeyOf.code) none
noncomputable abbrev spec_KeyOf_l1_K (k m : Nat) : Ex → Fr → Option Res := blockK 2 (seqK (evC G_spec_KeyOf fi_spec_KeyOf (evF G_spec_KeyOf (k + 1)) m (sub [1, 1, 1, 1, 1] fi_spec_KeyOf.code) none) (retK G_spec_KeyOf fi_spec_KeyOf))
noncomputable abbrev spec_KeyOf_l2_B (k m : Nat) : (Ex → Fr → Option Res) → Fr → Option Res := evC G_spec_KeyOf fi_spec_KeyOf (evF G_spec_KeyOf (k + 1)) m (sub [1, 1, 1, 1, 1, 1, 0, 1, 2, 3] fi_spec_KeyOf.code) none
noncomputable abbrev spec_KeyOf_l2_K (k m : Nat) : Ex → Fr → Option Res := blockK 4 (seqK (evC G_spec_KeyOf fi_spec_KeyOf (evF G_spec_KeyOf (k + 1)) m (sub [1, 1, 1, 1, 1, 1, 1] fi_spec_KeyOf.code) none) (retK G_spec_KeyOf fi_spec_KeyOf))
theorem spec_KeyOf_l2_eq (k m : Nat) : ∀ (n : Nat) (c54 : Cell) (i55 : Int) (s56 : ByteArray) (c57 : Cell) (c58 : Cell) (c59 : Cell) (c60 : Cell) (H61 : List Entry), loopK (some [1, 3, 6]) (spec_KeyOf_l2_B k m) (spec_KeyOf_l2_K k m) n ⟨fT 94 0 [(1, .loc 1 0), (3, .av (.one (c54))), (6, .av (.one (Cell.int i55)))], fX 94 0 [(1, [Cell.str s56, c57, c58, c59, c60])], H61⟩ = spec_KeyOf_l2 (k + 1) m n c54 i55 s56 c57 c58 c59 c60 H61 := by
  intro n
  induction n with
  | zero => intros; rfl
  | succ n ih =>
    intros
    simp only [spec_KeyOf_l2, ← ih]
    kernel_rfl
theorem spec_KeyOf_l1_eq (k m : Nat) : ∀ (n : Nat) (c30 : Cell) (i31 : Int) (s32 : ByteArray) (c33 : Cell) (c34 : Cell) (c35 : Cell) (c36 : Cell) (H37 : List Entry), loopK (some [1, 3, 5]) (spec_KeyOf_l1_B k m) (spec_KeyOf_l1_K k m) n ⟨fT 94 0 [(1, .loc 1 0), (3, .av (.one (c30))), (5, .av (.one (Cell.int i31)))], fX 94 0 [(1, [Cell.str s32, c33, c34, c35, c36])], H37⟩ = spec_KeyOf_l1 (k + 1) m n c30 i31 s32 c33 c34 c35 c36 H37 := by
  intro n
  induction n with
  | zero => intros; rfl
  | succ n ih =>
    intros
    simp only [spec_KeyOf_l1, ← spec_KeyOf_l2_eq k m, ← ih]
    kernel_rfl
theorem spec_KeyOf_l0_eq (k m : Nat) : ∀ (n : Nat) (c11 : Cell) (i12 : Int) (s13 : ByteArray) (c14 : Cell) (c15 : Cell) (c16 : Cell) (c17 : Cell) (H18 : List Entry), loopK (some [1, 3, 4]) (spec_KeyOf_l0_B k m) (spec_KeyOf_l0_K k m) n ⟨fT 94 0 [(1, .loc 1 0), (3, .av (.one (c11))), (4, .av (.one (Cell.int i12)))], fX 94 0 [(1, [Cell.str s13, c14, c15, c16, c17])], H18⟩ = spec_KeyOf_l0 (k + 1) m n c11 i12 s13 c14 c15 c16 c17 H18 := by
  intro n
  induction n with
  | zero => intros; rfl
  | succ n ih =>
    intros
    simp only [spec_KeyOf_l0, ← spec_KeyOf_l1_eq k m, ← ih]
    kernel_rfl
theorem spec_KeyOf_code (k m : Nat) (s1 : ByteArray) (c2 : Cell) (c3 : Cell) (c4 : Cell) (c5 : Cell) : evC G_spec_KeyOf fi_spec_KeyOf (evF G_spec_KeyOf (k + 1)) m fi_spec_KeyOf.code none (retK G_spec_KeyOf fi_spec_KeyOf) (enter fi_spec_KeyOf [.agg [Cell.str s1, c2, c3, c4, c5]] []) = spec_KeyOf (k + 1) m s1 c2 c3 c4 c5 := by
  simp only [spec_KeyOf, ← spec_KeyOf_l0_eq k m]
  kernel_rfl
theorem spec_KeyOf_eq (k : Nat) (s1 : ByteArray) (c2 : Cell) (c3 : Cell) (c4 : Cell) (c5 : Cell) : evF G_spec_KeyOf (k + 2) fid_spec_KeyOf [.agg [Cell.str s1, c2, c3, c4, c5]] [] = spec_KeyOf (k + 1) (k + 1) s1 c2 c3 c4 c5 :=
  Eq.trans (by kernel_rfl) (spec_KeyOf_code k (k + 1) s1 c2 c3 c4 c5)
theorem run_spec_KeyOf_of {s1 : ByteArray} {c2 : Cell} {c3 : Cell} {c4 : Cell} {c5 : Cell} {r : Res} (k : Nat) (h : spec_KeyOf (k + 1) (k + 1) s1 c2 c3 c4 c5 = some r) : run_spec_KeyOf [.agg [Cell.str s1, c2, c3, c4, c5]] [] = some r := lim_of ((spec_KeyOf_eq k s1 c2 c3 c4 c5).trans h)
noncomputable def pl_laws_toFile : List (Nat × Run) := []
noncomputable def G_laws_toFile : Ctx := ctx tyTab fiTab pl_laws_toFile
noncomputable def run_laws_toFile : Run := lim G_laws_toFile fid_laws_toFile
theorem ok_laws_toFile : FnOk Tryd.prog OkT fid_laws_toFile run_laws_toFile := lim_ok (l := pl_laws_toFile) Tryd_mix tyTab_ok fiTab_ok okT .nil fid_laws_toFile
noncomputable def laws_toFile (k m : Nat) (s1 : ByteArray) (s2 : ByteArray) : Option Res :=
  some ([.agg [Cell.str s1, Cell.str s2]], [])
theorem laws_toFile_code (k m : Nat) (s1 : ByteArray) (s2 : ByteArray) : evC G_laws_toFile fi_laws_toFile (evF G_laws_toFile (k + 1)) m fi_laws_toFile.code none (retK G_laws_toFile fi_laws_toFile) (enter fi_laws_toFile [.agg [Cell.str s1, Cell.str s2]] []) = laws_toFile (k + 1) m s1 s2 := by
  kernel_rfl
theorem laws_toFile_eq (k : Nat) (s1 : ByteArray) (s2 : ByteArray) : evF G_laws_toFile (k + 2) fid_laws_toFile [.agg [Cell.str s1, Cell.str s2]] [] = laws_toFile (k + 1) (k + 1) s1 s2 :=
  Eq.trans (by kernel_rfl) (laws_toFile_code k (k + 1) s1 s2)
theorem run_laws_toFile_of {s1 : ByteArray} {s2 : ByteArray} {r : Res} (k : Nat) (h : laws_toFile (k + 1) (k + 1) s1 s2 = some r) : run_laws_toFile [.agg [Cell.str s1, Cell.str s2]] [] = some r := lim_of ((laws_toFile_eq k s1 s2).trans h)
noncomputable def pl_laws_toFileS : List (Nat × Run) := [(fid_laws_toFile, run_laws_toFile)]
noncomputable def G_laws_toFileS : Ctx := ctx tyTab fiTab pl_laws_toFileS
noncomputable def run_laws_toFileS : Run := lim G_laws_toFileS fid_laws_toFileS
theorem ok_laws_toFileS : FnOk Tryd.prog OkT fid_laws_toFileS run_laws_toFileS := lim_ok (l := pl_laws_toFileS) Tryd_mix tyTab_ok fiTab_ok okT (.cons ok_laws_toFile .nil) fid_laws_toFileS
noncomputable def laws_toFileS_l0 (k m : Nat) : Nat → Cell → Cell → Int → List Entry → Option Res
  | 0, _, _, _, _ => none
  | n + 1, c3, c4, i5, H6 =>
    (lenC c3).bind fun n7 =>
    cond (decide (i5 < (n7 : Int)))
    ((idxA 2 (c3) i5).bind fun c8 =>
    (deref H6 (c8)).bind fun p9 =>
    (cS p9.1 p9.2).bind fun s10 =>
    (cS p9.1 (p9.2 + 1)).bind fun s11 =>
    (callF run_laws_toFile [.agg [Cell.str s10, Cell.str s11]] H6).bind fun r12 =>
    cond (shapeOk rk_laws_toFile r12.1)
    ((cS (cellsAt r12.1 0) 0).bind fun s13 =>
    (cS (cellsAt r12.1 0) 1).bind fun s14 =>
    (idxA 2 (c4) i5).bind fun c15 =>
    (hStore r12.2 (c15) [Cell.str s13, Cell.str s14]).bind fun h16 =>
    laws_toFileS_l0 k m n (c3) (c4) (IntKind.i64.wrap (i5 + 1)) h16)
    none)
    (some ([.one (c4)], H6))
noncomputable def laws_toFileS (k m : Nat) (c1 : Cell) : Option Res :=
  (lenC c1).bind fun n2 =>
  if 0 ≤ (n2 : Int) ∧ (n2 : Int) ≤ (n2 : Int) ∧ (n2 : Int) * 32 ≤ bound ∧ (n2 : Int) ≤ bound then
  (laws_toFileS_l0 k m m (c1) ((.vs 0 2 0 (n2 : Int).toNat 0)) 0 [Entry.mk 2 (mkRows (n2 : Int).toNat [Cell.str (bs []), Cell.str (bs [])]) 0 false]) else none
noncomputable abbrev laws_toFileS_l0_B (k m : Nat) : (Ex → Fr → Option Res) → Fr → Option Res := evC G_laws_toFileS fi_laws_toFileS (evF G_laws_toFileS (k + 1)) m (sub [1, 1, 0, 1, 2, 3] fi_laws_toFileS.code) none
noncomputable abbrev laws_toFileS_l0_K (k m : Nat) : Ex → Fr → Option Res := blockK 0 (seqK (evC G_laws_toFileS fi_laws_toFileS (evF G_laws_toFileS (k + 1)) m (sub [1, 1, 1] fi_laws_toFileS.code) none) (retK G_laws_toFileS fi_laws_toFileS))
theorem laws_toFileS_l0_eq (k m : Nat) : ∀ (n : Nat) (c3 : Cell) (c4 : Cell) (i5 : Int) (H6 : List Entry), loopK (some [0, 3, 4]) (laws_toFileS_l0_B k m) (laws_toFileS_l0_K k m) n ⟨fT 23 0 [(0, .av (.one (c3))), (3, .av (.one (c4))), (4, .av (.one (Cell.int i5)))], fX 23 0 [], H6⟩ = laws_toFileS_l0 (k + 1) m n c3 c4 i5 H6 := by
  intro n
  induction n with
  | zero => intros; rfl
  | succ n ih =>
    intros
    simp only [laws_toFileS_l0, ← ih]
    kernel_rfl
theorem laws_toFileS_code (k m : Nat) (c1 : Cell) : evC G_laws_toFileS fi_laws_toFileS (evF G_laws_toFileS (k + 1)) m fi_laws_toFileS.code none (retK G_laws_toFileS fi_laws_toFileS) (enter fi_laws_toFileS [.one (c1)] []) = laws_toFileS (k + 1) m c1 := by
  simp only [laws_toFileS, ← laws_toFileS_l0_eq k m]
  kernel_rfl
theorem laws_toFileS_eq (k : Nat) (c1 : Cell) : evF G_laws_toFileS (k + 2) fid_laws_toFileS [.one (c1)] [] = laws_toFileS (k + 1) (k + 1) c1 :=
  Eq.trans (by kernel_rfl) (laws_toFileS_code k (k + 1) c1)
theorem run_laws_toFileS_of {c1 : Cell} {r : Res} (k : Nat) (h : laws_toFileS (k + 1) (k + 1) c1 = some r) : run_laws_toFileS [.one (c1)] [] = some r := lim_of ((laws_toFileS_eq k c1).trans h)
noncomputable def pl_laws_toStringS : List (Nat × Run) := []
noncomputable def G_laws_toStringS : Ctx := ctx tyTab fiTab pl_laws_toStringS
noncomputable def run_laws_toStringS : Run := lim G_laws_toStringS fid_laws_toStringS
theorem ok_laws_toStringS : FnOk Tryd.prog OkT fid_laws_toStringS run_laws_toStringS := lim_ok (l := pl_laws_toStringS) Tryd_mix tyTab_ok fiTab_ok okT .nil fid_laws_toStringS
noncomputable def laws_toStringS_l0 (k m : Nat) : Nat → Cell → Cell → Int → List Entry → Option Res
  | 0, _, _, _, _ => none
  | n + 1, c3, c4, i5, H6 =>
    (lenC c3).bind fun n7 =>
    cond (decide (i5 < (n7 : Int)))
    ((idxA 1 (c3) i5).bind fun c8 =>
    (deref H6 (c8)).bind fun p9 =>
    (cS p9.1 p9.2).bind fun s10 =>
    (idxA 1 (c4) i5).bind fun c11 =>
    (hStore H6 (c11) [Cell.str s10]).bind fun h12 =>
    laws_toStringS_l0 k m n (c3) (c4) (IntKind.i64.wrap (i5 + 1)) h12)
    (some ([.one (c4)], H6))
noncomputable def laws_toStringS (k m : Nat) (c1 : Cell) : Option Res :=
  (lenC c1).bind fun n2 =>
  if 0 ≤ (n2 : Int) ∧ (n2 : Int) ≤ (n2 : Int) ∧ (n2 : Int) * 16 ≤ bound ∧ (n2 : Int) ≤ bound then
  (laws_toStringS_l0 k m m (c1) ((.vs 0 1 0 (n2 : Int).toNat 0)) 0 [Entry.mk 1 (mkRows (n2 : Int).toNat [Cell.str (bs [])]) 0 false]) else none
noncomputable abbrev laws_toStringS_l0_B (k m : Nat) : (Ex → Fr → Option Res) → Fr → Option Res := evC G_laws_toStringS fi_laws_toStringS (evF G_laws_toStringS (k + 1)) m (sub [1, 1, 0, 1, 2, 3] fi_laws_toStringS.code) none
noncomputable abbrev laws_toStringS_l0_K (k m : Nat) : Ex → Fr → Option Res := blockK 0 (seqK (evC G_laws_toStringS fi_laws_toStringS (evF G_laws_toStringS (k + 1)) m (sub [1, 1, 1] fi_laws_toStringS.code) none) (retK G_laws_toStringS fi_laws_toStringS))
theorem laws_toStringS_l0_eq (k m : Nat) : ∀ (n : Nat) (c3 : Cell) (c4 : Cell) (i5 : Int) (H6 : List Entry), loopK (some [0, 3, 4]) (laws_toStringS_l0_B k m) (laws_toStringS_l0_K k m) n ⟨fT 22 0 [(0, .av (.one (c3))), (3, .av (.one (c4))), (4, .av (.one (Cell.int i5)))], fX 22 0 [], H6⟩ = laws_toStringS_l0 (k + 1) m n c3 c4 i5 H6 := by
  intro n
  induction n with
  | zero => intros; rfl
  | succ n ih =>
    intros
    simp only [laws_toStringS_l0, ← ih]
    kernel_rfl
theorem laws_toStringS_code (k m : Nat) (c1 : Cell) : evC G_laws_toStringS fi_laws_toStringS (evF G_laws_toStringS (k + 1)) m fi_laws_toStringS.code none (retK G_laws_toStringS fi_laws_toStringS) (enter fi_laws_toStringS [.one (c1)] []) = laws_toStringS (k + 1) m c1 := by
  simp only [laws_toStringS, ← laws_toStringS_l0_eq k m]
  kernel_rfl
theorem laws_toStringS_eq (k : Nat) (c1 : Cell) : evF G_laws_toStringS (k + 2) fid_laws_toStringS [.one (c1)] [] = laws_toStringS (k + 1) (k + 1) c1 :=
  Eq.trans (by kernel_rfl) (laws_toStringS_code k (k + 1) c1)
theorem run_laws_toStringS_of {c1 : Cell} {r : Res} (k : Nat) (h : laws_toStringS (k + 1) (k + 1) c1 = some r) : run_laws_toStringS [.one (c1)] [] = some r := lim_of ((laws_toStringS_eq k c1).trans h)
noncomputable def pl_laws_toEnv : List (Nat × Run) := []
noncomputable def G_laws_toEnv : Ctx := ctx tyTab fiTab pl_laws_toEnv
noncomputable def run_laws_toEnv : Run := lim G_laws_toEnv fid_laws_toEnv
theorem ok_laws_toEnv : FnOk Tryd.prog OkT fid_laws_toEnv run_laws_toEnv := lim_ok (l := pl_laws_toEnv) Tryd_mix tyTab_ok fiTab_ok okT .nil fid_laws_toEnv
noncomputable def laws_toEnv (k m : Nat) (s1 : ByteArray) (s2 : ByteArray) : Option Res :=
  some ([.agg [Cell.str s1, Cell.str s2]], [])
theorem laws_toEnv_code (k m : Nat) (s1 : ByteArray) (s2 : ByteArray) : evC G_laws_toEnv fi_laws_toEnv (evF G_laws_toEnv (k + 1)) m fi_laws_toEnv.code none (retK G_laws_toEnv fi_laws_toEnv) (enter fi_laws_toEnv [.agg [Cell.str s1, Cell.str s2]] []) = laws_toEnv (k + 1) m s1 s2 := by
  kernel_rfl
theorem laws_toEnv_eq (k : Nat) (s1 : ByteArray) (s2 : ByteArray) : evF G_laws_toEnv (k + 2) fid_laws_toEnv [.agg [Cell.str s1, Cell.str s2]] [] = laws_toEnv (k + 1) (k + 1) s1 s2 :=
  Eq.trans (by kernel_rfl) (laws_toEnv_code k (k + 1) s1 s2)
theorem run_laws_toEnv_of {s1 : ByteArray} {s2 : ByteArray} {r : Res} (k : Nat) (h : laws_toEnv (k + 1) (k + 1) s1 s2 = some r) : run_laws_toEnv [.agg [Cell.str s1, Cell.str s2]] [] = some r := lim_of ((laws_toEnv_eq k s1 s2).trans h)
end Go.Ev
