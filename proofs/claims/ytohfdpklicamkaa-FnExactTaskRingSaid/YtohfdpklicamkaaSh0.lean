/- What the evaluator says of the functions, each as a Lean function over cells. Printed by a program of this claim. Conditions: none. -/
import Derived.Test.YtohfdpklicamkaaEvPr
import Derived.KernelRfl
namespace Go.Ev
open Go Go.Proofs
set_option maxRecDepth 100000
set_option linter.unusedVariables false
set_option linter.unusedSimpArgs false
noncomputable def pl_laws_szStringS : List (Nat × Run) := []
noncomputable def G_laws_szStringS : Ctx := ctx tyTab fiTab pl_laws_szStringS
noncomputable def run_laws_szStringS : Run := lim G_laws_szStringS fid_laws_szStringS
theorem ok_laws_szStringS : FnOk Try.prog OkT fid_laws_szStringS run_laws_szStringS := lim_ok (l := pl_laws_szStringS) Try_mix tyTab_ok fiTab_ok okT .nil fid_laws_szStringS
noncomputable def laws_szStringS_l0 (k m : Nat) : Nat → Cell → Int → Int → Option Res
  | 0, _, _, _ => none
  | n + 1, c4, i5, i6 =>
    (lenC c4).bind fun n7 =>
    cond (decide (i6 < (n7 : Int)))
    ((idxA 1 (c4) i6).bind fun c8 =>
    (deref [] (c8)).bind fun p9 =>
    (cS p9.1 p9.2).bind fun s10 =>
    cond (decide ((IntKind.i64.wrap (i5 - (s10.size : Int))) < 0))
    (some ([.one (Cell.int (-1))], []))
    (laws_szStringS_l0 k m n (c4) (IntKind.i64.wrap (i5 - (s10.size : Int))) (IntKind.i64.wrap (i6 + 1))))
    (some ([.one (Cell.int i5)], []))
noncomputable def laws_szStringS (k m : Nat) (c1 : Cell) (i2 : Int) : Option Res :=
  (lenC c1).bind fun n3 =>
  cond (decide ((IntKind.i64.wrap (i2 - (n3 : Int))) < 0))
  (some ([.one (Cell.int (-1))], []))
  (laws_szStringS_l0 k m m (c1) (IntKind.i64.wrap (i2 - (n3 : Int))) 0)
noncomputable abbrev laws_szStringS_l0_B (k m : Nat) : (Ex → Fr → Option Res) → Fr → Option Res := evC G_laws_szStringS fi_laws_szStringS (evF G_laws_szStringS (k + 1)) m (sub [1, 1, 1, 0, 1, 2, 3] fi_laws_szStringS.code) none
noncomputable abbrev laws_szStringS_l0_K (k m : Nat) : Ex → Fr → Option Res := blockK 0 (seqK (evC G_laws_szStringS fi_laws_szStringS (evF G_laws_szStringS (k + 1)) m (sub [1, 1, 1, 1] fi_laws_szStringS.code) none) (retK G_laws_szStringS fi_laws_szStringS))
theorem laws_szStringS_l0_eq (k m : Nat) : ∀ (n : Nat) (c4 : Cell) (i5 : Int) (i6 : Int), loopK (some [0, 1, 5]) (laws_szStringS_l0_B k m) (laws_szStringS_l0_K k m) n ⟨fT 28 0 [(0, .av (.one (c4))), (1, .av (.one (Cell.int i5))), (5, .av (.one (Cell.int i6)))], fX 28 0 [], []⟩ = laws_szStringS_l0 (k + 1) m n c4 i5 i6 := by
  intro n
  induction n with
  | zero => intros; rfl
  | succ n ih =>
    intros
    simp only [laws_szStringS_l0, ← ih]
    kernel_rfl
theorem laws_szStringS_code (k m : Nat) (c1 : Cell) (i2 : Int) : evC G_laws_szStringS fi_laws_szStringS (evF G_laws_szStringS (k + 1)) m fi_laws_szStringS.code none (retK G_laws_szStringS fi_laws_szStringS) (enter fi_laws_szStringS [.one (c1), .one (Cell.int i2)] []) = laws_szStringS (k + 1) m c1 i2 := by
  simp only [laws_szStringS, ← laws_szStringS_l0_eq k m]
  kernel_rfl
theorem laws_szStringS_eq (k : Nat) (c1 : Cell) (i2 : Int) : evF G_laws_szStringS (k + 2) fid_laws_szStringS [.one (c1), .one (Cell.int i2)] [] = laws_szStringS (k + 1) (k + 1) c1 i2 :=
  Eq.trans (by kernel_rfl) (laws_szStringS_code k (k + 1) c1 i2)
theorem run_laws_szStringS_of {c1 : Cell} {i2 : Int} {r : Res} (k : Nat) (h : laws_szStringS (k + 1) (k + 1) c1 i2 = some r) : run_laws_szStringS [.one (c1), .one (Cell.int i2)] [] = some r := lim_of ((laws_szStringS_eq k c1 i2).trans h)
noncomputable def pl_laws_szStringSS : List (Nat × Run) := [(fid_laws_szStringS, run_laws_szStringS)]
noncomputable def G_laws_szStringSS : Ctx := ctx tyTab fiTab pl_laws_szStringSS
noncomputable def run_laws_szStringSS : Run := lim G_laws_szStringSS fid_laws_szStringSS
theorem ok_laws_szStringSS : FnOk Try.prog OkT fid_laws_szStringSS run_laws_szStringSS := lim_ok (l := pl_laws_szStringSS) Try_mix tyTab_ok fiTab_ok okT (.cons ok_laws_szStringS .nil) fid_laws_szStringSS
noncomputable def laws_szStringSS_l0 (k m : Nat) : Nat → Cell → Int → Int → Option Res
  | 0, _, _, _ => none
  | n + 1, c4, i5, i6 =>
    (lenC c4).bind fun n7 =>
    cond (decide (i6 < (n7 : Int)))
    ((idxA 1 (c4) i6).bind fun c8 =>
    (deref [] (c8)).bind fun p9 =>
    (cC p9.1 p9.2).bind fun c10 =>
    (callS run_laws_szStringS [.one (c10), .one (Cell.int i5)] []).bind fun r11 =>
    cond (shapeOk rk_laws_szStringS r11)
    ((cI .i64 (cellsAt r11 0) 0).bind fun i12 =>
    cond (decide (i12 < 0))
    (some ([.one (Cell.int (-1))], []))
    (laws_szStringSS_l0 k m n (c4) i12 (IntKind.i64.wrap (i6 + 1))))
    none)
    (some ([.one (Cell.int i5)], []))
noncomputable def laws_szStringSS (k m : Nat) (c1 : Cell) (i2 : Int) : Option Res :=
  (lenC c1).bind fun n3 =>
  cond (decide ((IntKind.i64.wrap (i2 - (n3 : Int))) < 0))
  (some ([.one (Cell.int (-1))], []))
  (laws_szStringSS_l0 k m m (c1) (IntKind.i64.wrap (i2 - (n3 : Int))) 0)
noncomputable abbrev laws_szStringSS_l0_B (k m : Nat) : (Ex → Fr → Option Res) → Fr → Option Res := evC G_laws_szStringSS fi_laws_szStringSS (evF G_laws_szStringSS (k + 1)) m (sub [1, 1, 1, 0, 1, 2, 3] fi_laws_szStringSS.code) none
noncomputable abbrev laws_szStringSS_l0_K (k m : Nat) : Ex → Fr → Option Res := blockK 0 (seqK (evC G_laws_szStringSS fi_laws_szStringSS (evF G_laws_szStringSS (k + 1)) m (sub [1, 1, 1, 1] fi_laws_szStringSS.code) none) (retK G_laws_szStringSS fi_laws_szStringSS))
theorem laws_szStringSS_l0_eq (k m : Nat) : ∀ (n : Nat) (c4 : Cell) (i5 : Int) (i6 : Int), loopK (some [0, 1, 5]) (laws_szStringSS_l0_B k m) (laws_szStringSS_l0_K k m) n ⟨fT 27 0 [(0, .av (.one (c4))), (1, .av (.one (Cell.int i5))), (5, .av (.one (Cell.int i6)))], fX 27 0 [], []⟩ = laws_szStringSS_l0 (k + 1) m n c4 i5 i6 := by
  intro n
  induction n with
  | zero => intros; rfl
  | succ n ih =>
    intros
    simp only [laws_szStringSS_l0, ← ih]
    kernel_rfl
theorem laws_szStringSS_code (k m : Nat) (c1 : Cell) (i2 : Int) : evC G_laws_szStringSS fi_laws_szStringSS (evF G_laws_szStringSS (k + 1)) m fi_laws_szStringSS.code none (retK G_laws_szStringSS fi_laws_szStringSS) (enter fi_laws_szStringSS [.one (c1), .one (Cell.int i2)] []) = laws_szStringSS (k + 1) m c1 i2 := by
  simp only [laws_szStringSS, ← laws_szStringSS_l0_eq k m]
  kernel_rfl
theorem laws_szStringSS_eq (k : Nat) (c1 : Cell) (i2 : Int) : evF G_laws_szStringSS (k + 2) fid_laws_szStringSS [.one (c1), .one (Cell.int i2)] [] = laws_szStringSS (k + 1) (k + 1) c1 i2 :=
  Eq.trans (by kernel_rfl) (laws_szStringSS_code k (k + 1) c1 i2)
theorem run_laws_szStringSS_of {c1 : Cell} {i2 : Int} {r : Res} (k : Nat) (h : laws_szStringSS (k + 1) (k + 1) c1 i2 = some r) : run_laws_szStringSS [.one (c1), .one (Cell.int i2)] [] = some r := lim_of ((laws_szStringSS_eq k c1 i2).trans h)
noncomputable def pl_laws_szPlan : List (Nat × Run) := [(fid_laws_szStringS, run_laws_szStringS), (fid_laws_szStringSS, run_laws_szStringSS)]
noncomputable def G_laws_szPlan : Ctx := ctx tyTab fiTab pl_laws_szPlan
noncomputable def run_laws_szPlan : Run := lim G_laws_szPlan fid_laws_szPlan
theorem ok_laws_szPlan : FnOk Try.prog OkT fid_laws_szPlan run_laws_szPlan := lim_ok (l := pl_laws_szPlan) Try_mix tyTab_ok fiTab_ok okT (.cons ok_laws_szStringS (.cons ok_laws_szStringSS .nil)) fid_laws_szPlan
noncomputable def laws_szPlan (k m : Nat) (c1 : Cell) (c2 : Cell) (i3 : Int) : Option Res :=
  (callS run_laws_szStringS [.one (c1), .one (Cell.int i3)] []).bind fun r4 =>
  cond (shapeOk rk_laws_szStringS r4)
  ((cI .i64 (cellsAt r4 0) 0).bind fun i5 =>
  cond (decide (i5 < 0))
  (some ([.one (Cell.int (-1))], []))
  ((callS run_laws_szStringSS [.one (c2), .one (Cell.int i5)] []).bind fun r6 =>
  cond (shapeOk rk_laws_szStringSS r6)
  ((cI .i64 (cellsAt r6 0) 0).bind fun i7 =>
  cond (decide (i7 < 0))
  (some ([.one (Cell.int (-1))], []))
  (some ([.one (Cell.int i7)], [])))
  none))
  none
theorem laws_szPlan_code (k m : Nat) (c1 : Cell) (c2 : Cell) (i3 : Int) : evC G_laws_szPlan fi_laws_szPlan (evF G_laws_szPlan (k + 1)) m fi_laws_szPlan.code none (retK G_laws_szPlan fi_laws_szPlan) (enter fi_laws_szPlan [.agg [c1, c2], .one (Cell.int i3)] []) = laws_szPlan (k + 1) m c1 c2 i3 := by
  kernel_rfl
theorem laws_szPlan_eq (k : Nat) (c1 : Cell) (c2 : Cell) (i3 : Int) : evF G_laws_szPlan (k + 2) fid_laws_szPlan [.agg [c1, c2], .one (Cell.int i3)] [] = laws_szPlan (k + 1) (k + 1) c1 c2 i3 :=
  Eq.trans (by kernel_rfl) (laws_szPlan_code k (k + 1) c1 c2 i3)
theorem run_laws_szPlan_of {c1 : Cell} {c2 : Cell} {i3 : Int} {r : Res} (k : Nat) (h : laws_szPlan (k + 1) (k + 1) c1 c2 i3 = some r) : run_laws_szPlan [.agg [c1, c2], .one (Cell.int i3)] [] = some r := lim_of ((laws_szPlan_eq k c1 c2 i3).trans h)
noncomputable def pl_spec_l1Has : List (Nat × Run) := []
noncomputable def G_spec_l1Has : Ctx := ctx tyTab fiTab pl_spec_l1Has
noncomputable def run_spec_l1Has : Run := lim G_spec_l1Has fid_spec_l1Has
theorem ok_spec_l1Has : FnOk Try.prog OkT fid_spec_l1Has run_spec_l1Has := lim_ok (l := pl_spec_l1Has) Try_mix tyTab_ok fiTab_ok okT .nil fid_spec_l1Has
noncomputable def spec_l1Has_l0 (k m : Nat) : Nat → Cell → ByteArray → Int → Option Res
  | 0, _, _, _ => none
  | n + 1, c3, s4, i5 =>
    (lenC c3).bind fun n6 =>
    cond (decide (i5 < (n6 : Int)))
    ((idxA 1 (c3) i5).bind fun c7 =>
    (deref [] (c7)).bind fun p8 =>
    (cS p8.1 p8.2).bind fun s9 =>
    cond (s9.toList == s4.toList)
    (some ([.one (Cell.bool true)], []))
    (spec_l1Has_l0 k m n (c3) s4 (IntKind.i64.wrap (i5 + 1))))
    (some ([.one (Cell.bool false)], []))
noncomputable def spec_l1Has (k m : Nat) (c1 : Cell) (s2 : ByteArray) : Option Res :=
  spec_l1Has_l0 k m m (c1) s2 0
noncomputable abbrev spec_l1Has_l0_B (k m : Nat) : (Ex → Fr → Option Res) → Fr → Option Res := evC G_spec_l1Has fi_spec_l1Has (evF G_spec_l1Has (k + 1)) m (sub [1, 0, 1, 2, 3] fi_spec_l1Has.code) none
noncomputable abbrev spec_l1Has_l0_K (k m : Nat) : Ex → Fr → Option Res := blockK 0 (seqK (evC G_spec_l1Has fi_spec_l1Has (evF G_spec_l1Has (k + 1)) m (sub [1, 1] fi_spec_l1Has.code) none) (retK G_spec_l1Has fi_spec_l1Has))
theorem spec_l1Has_l0_eq (k m : Nat) : ∀ (n : Nat) (c3 : Cell) (s4 : ByteArray) (i5 : Int), loopK (some [0, 1, 5]) (spec_l1Has_l0_B k m) (spec_l1Has_l0_K k m) n ⟨fT 18 0 [(0, .av (.one (c3))), (1, .av (.one (Cell.str s4))), (5, .av (.one (Cell.int i5)))], fX 18 0 [], []⟩ = spec_l1Has_l0 (k + 1) m n c3 s4 i5 := by
  intro n
  induction n with
  | zero => intros; rfl
  | succ n ih =>
    intros
    simp only [spec_l1Has_l0, ← ih]
    kernel_rfl
theorem spec_l1Has_code (k m : Nat) (c1 : Cell) (s2 : ByteArray) : evC G_spec_l1Has fi_spec_l1Has (evF G_spec_l1Has (k + 1)) m fi_spec_l1Has.code none (retK G_spec_l1Has fi_spec_l1Has) (enter fi_spec_l1Has [.one (c1), .one (Cell.str s2)] []) = spec_l1Has (k + 1) m c1 s2 := by
  simp only [spec_l1Has, ← spec_l1Has_l0_eq k m]
  kernel_rfl
theorem spec_l1Has_eq (k : Nat) (c1 : Cell) (s2 : ByteArray) : evF G_spec_l1Has (k + 2) fid_spec_l1Has [.one (c1), .one (Cell.str s2)] [] = spec_l1Has (k + 1) (k + 1) c1 s2 :=
  Eq.trans (by kernel_rfl) (spec_l1Has_code k (k + 1) c1 s2)
theorem run_spec_l1Has_of {c1 : Cell} {s2 : ByteArray} {r : Res} (k : Nat) (h : spec_l1Has (k + 1) (k + 1) c1 s2 = some r) : run_spec_l1Has [.one (c1), .one (Cell.str s2)] [] = some r := lim_of ((spec_l1Has_eq k c1 s2).trans h)
noncomputable def pl_spec_l11At : List (Nat × Run) := []
noncomputable def G_spec_l11At : Ctx := ctx tyTab fiTab pl_spec_l11At
noncomputable def run_spec_l11At : Run := lim G_spec_l11At fid_spec_l11At
theorem ok_spec_l11At : FnOk Try.prog OkT fid_spec_l11At run_spec_l11At := lim_ok (l := pl_spec_l11At) Try_mix tyTab_ok fiTab_ok okT .nil fid_spec_l11At
noncomputable def spec_l11At_l0 (k m : Nat) : Nat → ByteArray → Int → Cell → Cell → Option Res
  | 0, _, _, _, _ => none
  | n + 1, s4, i5, c6, c7 =>
    (lenC c6).bind fun n8 =>
    cond (decide (i5 < (n8 : Int)))
    ((idxA 1 (c6) i5).bind fun c9 =>
    (deref [] (c9)).bind fun p10 =>
    (cS p10.1 p10.2).bind fun s11 =>
    cond (s11.toList == s4.toList)
    (some ([.one (Cell.int i5)], []))
    (spec_l11At_l0 k m n s4 (IntKind.i64.wrap (i5 + 1)) (c6) (c7)))
    (some ([.one (Cell.int (-1))], []))
noncomputable def spec_l11At (k m : Nat) (c1 : Cell) (c2 : Cell) (s3 : ByteArray) : Option Res :=
  spec_l11At_l0 k m m s3 0 (c1) (c2)
noncomputable abbrev spec_l11At_l0_B (k m : Nat) : (Ex → Fr → Option Res) → Fr → Option Res := evC G_spec_l11At fi_spec_l11At (evF G_spec_l11At (k + 1)) m (sub [1, 0, 1, 2, 3] fi_spec_l11At.code) none
noncomputable abbrev spec_l11At_l0_K (k m : Nat) : Ex → Fr → Option Res := blockK 0 (seqK (evC G_spec_l11At fi_spec_l11At (evF G_spec_l11At (k + 1)) m (sub [1, 1] fi_spec_l11At.code) none) (retK G_spec_l11At fi_spec_l11At))
theorem spec_l11At_l0_eq (k m : Nat) : ∀ (n : Nat) (s4 : ByteArray) (i5 : Int) (c6 : Cell) (c7 : Cell), loopK (some [1, 2, 5]) (spec_l11At_l0_B k m) (spec_l11At_l0_K k m) n ⟨fT 21 0 [(1, .av (.one (Cell.str s4))), (2, .loc 2 0), (5, .av (.one (Cell.int i5)))], fX 21 0 [(2, [c6, c7])], []⟩ = spec_l11At_l0 (k + 1) m n s4 i5 c6 c7 := by
  intro n
  induction n with
  | zero => intros; rfl
  | succ n ih =>
    intros
    simp only [spec_l11At_l0, ← ih]
    kernel_rfl
theorem spec_l11At_code (k m : Nat) (c1 : Cell) (c2 : Cell) (s3 : ByteArray) : evC G_spec_l11At fi_spec_l11At (evF G_spec_l11At (k + 1)) m fi_spec_l11At.code none (retK G_spec_l11At fi_spec_l11At) (enter fi_spec_l11At [.agg [c1, c2], .one (Cell.str s3)] []) = spec_l11At (k + 1) m c1 c2 s3 := by
  simp only [spec_l11At, ← spec_l11At_l0_eq k m]
  kernel_rfl
theorem spec_l11At_eq (k : Nat) (c1 : Cell) (c2 : Cell) (s3 : ByteArray) : evF G_spec_l11At (k + 2) fid_spec_l11At [.agg [c1, c2], .one (Cell.str s3)] [] = spec_l11At (k + 1) (k + 1) c1 c2 s3 :=
  Eq.trans (by kernel_rfl) (spec_l11At_code k (k + 1) c1 c2 s3)
theorem run_spec_l11At_of {c1 : Cell} {c2 : Cell} {s3 : ByteArray} {r : Res} (k : Nat) (h : spec_l11At (k + 1) (k + 1) c1 c2 s3 = some r) : run_spec_l11At [.agg [c1, c2], .one (Cell.str s3)] [] = some r := lim_of ((spec_l11At_eq k c1 c2 s3).trans h)
noncomputable def pl_spec_l11Next : List (Nat × Run) := [(fid_spec_l11At, run_spec_l11At)]
noncomputable def G_spec_l11Next : Ctx := ctx tyTab fiTab pl_spec_l11Next
noncomputable def run_spec_l11Next : Run := lim G_spec_l11Next fid_spec_l11Next
theorem ok_spec_l11Next : FnOk Try.prog OkT fid_spec_l11Next run_spec_l11Next := lim_ok (l := pl_spec_l11Next) Try_mix tyTab_ok fiTab_ok okT (.cons ok_spec_l11At .nil) fid_spec_l11Next
noncomputable def spec_l11Next (k m : Nat) (c1 : Cell) (c2 : Cell) (s3 : ByteArray) : Option Res :=
  (callS run_spec_l11At [.agg [c1, c2], .one (Cell.str s3)] []).bind fun r4 =>
  cond (shapeOk rk_spec_l11At r4)
  ((cI .i64 (cellsAt r4 0) 0).bind fun i5 =>
  cond (decide (i5 < 0))
  (some ([.one (.lst true 1 [])], []))
  ((idxA 1 (c2) i5).bind fun c6 =>
  (deref [] (c6)).bind fun p7 =>
  (cC p7.1 p7.2).bind fun c8 =>
  some ([.one (c8)], [])))
  none
theorem spec_l11Next_code (k m : Nat) (c1 : Cell) (c2 : Cell) (s3 : ByteArray) : evC G_spec_l11Next fi_spec_l11Next (evF G_spec_l11Next (k + 1)) m fi_spec_l11Next.code none (retK G_spec_l11Next fi_spec_l11Next) (enter fi_spec_l11Next [.agg [c1, c2], .one (Cell.str s3)] []) = spec_l11Next (k + 1) m c1 c2 s3 := by
  kernel_rfl
theorem spec_l11Next_eq (k : Nat) (c1 : Cell) (c2 : Cell) (s3 : ByteArray) : evF G_spec_l11Next (k + 2) fid_spec_l11Next [.agg [c1, c2], .one (Cell.str s3)] [] = spec_l11Next (k + 1) (k + 1) c1 c2 s3 :=
  Eq.trans (by kernel_rfl) (spec_l11Next_code k (k + 1) c1 c2 s3)
theorem run_spec_l11Next_of {c1 : Cell} {c2 : Cell} {s3 : ByteArray} {r : Res} (k : Nat) (h : spec_l11Next (k + 1) (k + 1) c1 c2 s3 = some r) : run_spec_l11Next [.agg [c1, c2], .one (Cell.str s3)] [] = some r := lim_of ((spec_l11Next_eq k c1 c2 s3).trans h)
noncomputable def pl_spec_Sorted : List (Nat × Run) := [(fid_spec_l1Has, run_spec_l1Has)]
noncomputable def G_spec_Sorted : Ctx := ctx tyTab fiTab pl_spec_Sorted
noncomputable def run_spec_Sorted : Run := lim G_spec_Sorted fid_spec_Sorted
theorem ok_spec_Sorted : FnOk Try.prog OkT fid_spec_Sorted run_spec_Sorted := lim_ok (l := pl_spec_Sorted) Try_mix tyTab_ok fiTab_ok okT (.cons ok_spec_l1Has .nil) fid_spec_Sorted
noncomputable def spec_Sorted_l1 (k m : Nat) (b_l0 : Cell → Cell → Int → List Entry → Option Res) : Nat → Cell → Cell → Int → Int → List Entry → Option Res
  | 0, _, _, _, _, _ => none
  | n + 1, c17, c18, i19, i20, H21 =>
    cond (decide (i20 > 0))
    ((idxA 1 (c18) (IntKind.i64.wrap (i20 - 1))).bind fun c22 =>
    (deref H21 (c22)).bind fun p23 =>
    (cS p23.1 p23.2).bind fun s24 =>
    (idxA 1 (c17) i19).bind fun c25 =>
    (deref H21 (c25)).bind fun p26 =>
    (cS p26.1 p26.2).bind fun s27 =>
    cond (!(Op.bytesLess s24.toList s27.toList || s24.toList == s27.toList))
    ((idxA 1 (c18) (IntKind.i64.wrap (i20 - 1))).bind fun c28 =>
    (deref H21 (c28)).bind fun p29 =>
    (cS p29.1 p29.2).bind fun s30 =>
    (idxA 1 (c18) i20).bind fun c31 =>
    (hStore H21 (c31) [Cell.str s30]).bind fun h32 =>
    spec_Sorted_l1 k m b_l0 n (c17) (c18) i19 (IntKind.i64.wrap (i20 - 1)) h32)
    ((idxA 1 (c17) i19).bind fun c33 =>
    (deref H21 (c33)).bind fun p34 =>
    (cS p34.1 p34.2).bind fun s35 =>
    (idxA 1 (c18) i20).bind fun c36 =>
    (hStore H21 (c36) [Cell.str s35]).bind fun h37 =>
    b_l0 (c17) (c18) (IntKind.i64.wrap (i19 + 1)) h37))
    ((idxA 1 (c17) i19).bind fun c38 =>
    (deref H21 (c38)).bind fun p39 =>
    (cS p39.1 p39.2).bind fun s40 =>
    (idxA 1 (c18) i20).bind fun c41 =>
    (hStore H21 (c41) [Cell.str s40]).bind fun h42 =>
    b_l0 (c17) (c18) (IntKind.i64.wrap (i19 + 1)) h42)
noncomputable def spec_Sorted_l0 (k m : Nat) : Nat → Cell → Cell → Int → List Entry → Option Res
  | 0, _, _, _, _ => none
  | n + 1, c2, c3, i4, H5 =>
    (lenC c2).bind fun n6 =>
    cond (decide (i4 < (n6 : Int)))
    ((idxA 1 (c2) i4).bind fun c7 =>
    (deref H5 (c7)).bind fun p8 =>
    (cS p8.1 p8.2).bind fun s9 =>
    (callS run_spec_l1Has [.one (c3), .one (Cell.str s9)] H5).bind fun r10 =>
    cond (shapeOk rk_spec_l1Has r10)
    ((cB (cellsAt r10 0) 0).bind fun b11 =>
    cond b11
    (spec_Sorted_l0 k m n (c2) (c3) (IntKind.i64.wrap (i4 + 1)) H5)
    ((idxA 1 (c2) i4).bind fun c12 =>
    (deref H5 (c12)).bind fun p13 =>
    (cS p13.1 p13.2).bind fun s14 =>
    (app H5 1 16 (c3) [[Cell.str s14]]).bind fun p15 =>
    (lenC p15.1).bind fun n16 =>
    spec_Sorted_l1 k m (spec_Sorted_l0 k m n) m (c2) (p15.1) i4 (IntKind.i64.wrap ((n16 : Int) - 1)) p15.2))
    none)
    (some ([.one (c3)], H5))
noncomputable def spec_Sorted (k m : Nat) (c1 : Cell) : Option Res :=
  spec_Sorted_l0 k m m (c1) (.lst true 1 []) 0 []
noncomputable abbrev spec_Sorted_l0_B (k m : Nat) : (Ex → Fr → Option Res) → Fr → Option Res := evC G_spec_Sorted fi_spec_Sorted (evF G_spec_Sorted (k + 1)) m (sub [1, 1, 0, 1, 2, 3] fi_spec_Sorted.code) none
noncomputable abbrev spec_Sorted_l0_K (k m : Nat) : Ex → Fr → Option Res := blockK 0 (seqK (evC G_spec_Sorted fi_spec_Sorted (evF G_spec_Sorted (k + 1)) m (sub [1, 1, 1] fi_spec_Sorted.code) none) (retK G_spec_Sorted fi_spec_Sorted))
noncomputable abbrev spec_Sorted_l1_B (k m : Nat) : (Ex → Fr → Option Res) → Fr → Option Res := evC G_spec_Sorted fi_spec_Sorted (evF G_spec_Sorted (k + 1)) m (sub [1, 1, 0, 1, 2, 3, 1, 0, 2, 1, 1, 1, 0, 2, 3] fi_spec_Sorted.code) none
noncomputable abbrev spec_Sorted_l1_K (k m : Nat) (n_l0 : Nat) : Ex → Fr → Option Res := blockK 2 (seqK (evC G_spec_Sorted fi_spec_Sorted (evF G_spec_Sorted (k + 1)) m (sub [1, 1, 0, 1, 2, 3, 1, 0, 2, 1, 1, 1, 1] fi_spec_Sorted.code) none) (blockK 1 (seqK (evC G_spec_Sorted fi_spec_Sorted (evF G_spec_Sorted (k + 1)) m (sub [1, 1, 0, 1, 2, 3, 1, 1] fi_spec_Sorted.code) none) (loopE (fun s => loopK (some [0, 3, 4]) (spec_Sorted_l0_B k m) (spec_Sorted_l0_K k m) n_l0 (keepS (some [0, 3, 4]) s)) (spec_Sorted_l0_K k m)))))
theorem spec_Sorted_l1_eq (k m : Nat) (b_l0 : Cell → Cell → Int → List Entry → Option Res) (n_l0 : Nat) (h_l0 : ∀ (c2 : Cell) (c3 : Cell) (i4 : Int) (H5 : List Entry), loopK (some [0, 3, 4]) (spec_Sorted_l0_B k m) (spec_Sorted_l0_K k m) n_l0 ⟨fT 61 0 [(0, .av (.one (c2))), (3, .av (.one (c3))), (4, .av (.one (Cell.int i4)))], fX 61 0 [], H5⟩ = b_l0 c2 c3 i4 H5) : ∀ (n : Nat) (c17 : Cell) (c18 : Cell) (i19 : Int) (i20 : Int) (H21 : List Entry), loopK (some [0, 3, 4, 5]) (spec_Sorted_l1_B k m) (spec_Sorted_l1_K k m n_l0) n ⟨fT 61 0 [(0, .av (.one (c17))), (3, .av (.one (c18))), (4, .av (.one (Cell.int i19))), (5, .av (.one (Cell.int i20)))], fX 61 0 [], H21⟩ = spec_Sorted_l1 (k + 1) m b_l0 n c17 c18 i19 i20 H21 := by
  intro n
  induction n with
  | zero => intros; rfl
  | succ n ih =>
    intros
    simp only [spec_Sorted_l1, ← h_l0, ← ih]
    kernel_rfl
theorem spec_Sorted_l0_eq (k m : Nat) : ∀ (n : Nat) (c2 : Cell) (c3 : Cell) (i4 : Int) (H5 : List Entry), loopK (some [0, 3, 4]) (spec_Sorted_l0_B k m) (spec_Sorted_l0_K k m) n ⟨fT 61 0 [(0, .av (.one (c2))), (3, .av (.one (c3))), (4, .av (.one (Cell.int i4)))], fX 61 0 [], H5⟩ = spec_Sorted_l0 (k + 1) m n c2 c3 i4 H5 := by
  intro n
  induction n with
  | zero => intros; rfl
  | succ n ih =>
    intros
    simp only [spec_Sorted_l0, ← spec_Sorted_l1_eq k m _ _ (ih), ← ih]
    kernel_rfl
theorem spec_Sorted_code (k m : Nat) (c1 : Cell) : evC G_spec_Sorted fi_spec_Sorted (evF G_spec_Sorted (k + 1)) m fi_spec_Sorted.code none (retK G_spec_Sorted fi_spec_Sorted) (enter fi_spec_Sorted [.one (c1)] []) = spec_Sorted (k + 1) m c1 := by
  simp only [spec_Sorted, ← spec_Sorted_l0_eq k m]
  kernel_rfl
theorem spec_Sorted_eq (k : Nat) (c1 : Cell) : evF G_spec_Sorted (k + 2) fid_spec_Sorted [.one (c1)] [] = spec_Sorted (k + 1) (k + 1) c1 :=
  Eq.trans (by kernel_rfl) (spec_Sorted_code k (k + 1) c1)
theorem run_spec_Sorted_of {c1 : Cell} {r : Res} (k : Nat) (h : spec_Sorted (k + 1) (k + 1) c1 = some r) : run_spec_Sorted [.one (c1)] [] = some r := lim_of ((spec_Sorted_eq k c1).trans h)
noncomputable def pl_spec_l11Reach : List (Nat × Run) := [(fid_spec_l1Has, run_spec_l1Has), (fid_spec_l11Next, run_spec_l11Next), (fid_spec_Sorted, run_spec_Sorted)]
noncomputable def G_spec_l11Reach : Ctx := ctx tyTab fiTab pl_spec_l11Reach
noncomputable def run_spec_l11Reach : Run := lim G_spec_l11Reach fid_spec_l11Reach
theorem ok_spec_l11Reach : FnOk Try.prog OkT fid_spec_l11Reach run_spec_l11Reach := lim_ok (l := pl_spec_l11Reach) Try_mix tyTab_ok fiTab_ok okT (.cons ok_spec_l1Has (.cons ok_spec_l11Next (.cons ok_spec_Sorted .nil))) fid_spec_l11Reach
noncomputable def spec_l11Reach_l0 (k m : Nat) : Nat → Cell → Cell → Cell → Cell → List Entry → Option Res
  | 0, _, _, _, _, _ => none
  | n + 1, c8, c9, c10, c11, H12 =>
    (lenC c9).bind fun n13 =>
    cond (decide ((n13 : Int) > 0))
    ((idxA 1 (c9) 0).bind fun c14 =>
    (deref H12 (c14)).bind fun p15 =>
    (cS p15.1 p15.2).bind fun s16 =>
    (slcC 1 (c9) 1 none none).bind fun c17 =>
    (srcRows H12 1 c17).bind fun r18 =>
    (app H12 1 16 (.lst true 1 []) r18).bind fun p19 =>
    (callS run_spec_l1Has [.one (c8), .one (Cell.str s16)] p19.2).bind fun r20 =>
    cond (shapeOk rk_spec_l1Has r20)
    ((cB (cellsAt r20 0) 0).bind fun b21 =>
    cond (!b21)
    ((app p19.2 1 16 (c8) [[Cell.str s16]]).bind fun p22 =>
    (callL run_spec_l11Next [.agg [c10, c11], .one (Cell.str s16)] p22.2).bind fun r23 =>
    cond (shapeOk rk_spec_l11Next r23.1)
    ((cC (cellsAt r23.1 0) 0).bind fun c24 =>
    (srcRows r23.2 1 c24).bind fun r25 =>
    (app r23.2 1 16 (p19.1) r25).bind fun p26 =>
    spec_l11Reach_l0 k m n (p22.1) (p26.1) (c10) (c11) p26.2)
    none)
    (spec_l11Reach_l0 k m n (c8) (p19.1) (c10) (c11) p19.2))
    none)
    ((callL run_spec_Sorted [.one (c8)] H12).bind fun r27 =>
    cond (shapeOk rk_spec_Sorted r27.1)
    ((cC (cellsAt r27.1 0) 0).bind fun c28 =>
    some ([.one (c28)], r27.2))
    none)
noncomputable def spec_l11Reach (k m : Nat) (c1 : Cell) (c2 : Cell) (s3 : ByteArray) : Option Res :=
  (callL run_spec_l11Next [.agg [c1, c2], .one (Cell.str s3)] []).bind fun r4 =>
  cond (shapeOk rk_spec_l11Next r4.1)
  ((cC (cellsAt r4.1 0) 0).bind fun c5 =>
  (srcRows r4.2 1 c5).bind fun r6 =>
  (app r4.2 1 16 (.lst true 1 []) r6).bind fun p7 =>
  spec_l11Reach_l0 k m m (.lst true 1 []) (p7.1) (c1) (c2) p7.2)
  none
noncomputable abbrev spec_l11Reach_l0_B (k m : Nat) : (Ex → Fr → Option Res) → Fr → Option Res := evC G_spec_l11Reach fi_spec_l11Reach (evF G_spec_l11Reach (k + 1)) m (sub [1, 1, 1, 0, 2, 3] fi_spec_l11Reach.code) none
noncomputable abbrev spec_l11Reach_l0_K (k m : Nat) : Ex → Fr → Option Res := blockK 0 (seqK (evC G_spec_l11Reach fi_spec_l11Reach (evF G_spec_l11Reach (k + 1)) m (sub [1, 1, 1, 1] fi_spec_l11Reach.code) none) (retK G_spec_l11Reach fi_spec_l11Reach))
theorem spec_l11Reach_l0_eq (k m : Nat) : ∀ (n : Nat) (c8 : Cell) (c9 : Cell) (c10 : Cell) (c11 : Cell) (H12 : List Entry), loopK (some [2, 5, 6]) (spec_l11Reach_l0_B k m) (spec_l11Reach_l0_K k m) n ⟨fT 39 0 [(2, .loc 2 0), (5, .av (.one (c8))), (6, .av (.one (c9)))], fX 39 0 [(2, [c10, c11])], H12⟩ = spec_l11Reach_l0 (k + 1) m n c8 c9 c10 c11 H12 := by
  intro n
  induction n with
  | zero => intros; rfl
  | succ n ih =>
    intros
    simp only [spec_l11Reach_l0, ← ih]
    kernel_rfl
theorem spec_l11Reach_code (k m : Nat) (c1 : Cell) (c2 : Cell) (s3 : ByteArray) : evC G_spec_l11Reach fi_spec_l11Reach (evF G_spec_l11Reach (k + 1)) m fi_spec_l11Reach.code none (retK G_spec_l11Reach fi_spec_l11Reach) (enter fi_spec_l11Reach [.agg [c1, c2], .one (Cell.str s3)] []) = spec_l11Reach (k + 1) m c1 c2 s3 := by
  simp only [spec_l11Reach, ← spec_l11Reach_l0_eq k m]
  kernel_rfl
theorem spec_l11Reach_eq (k : Nat) (c1 : Cell) (c2 : Cell) (s3 : ByteArray) : evF G_spec_l11Reach (k + 2) fid_spec_l11Reach [.agg [c1, c2], .one (Cell.str s3)] [] = spec_l11Reach (k + 1) (k + 1) c1 c2 s3 :=
  Eq.trans (by kernel_rfl) (spec_l11Reach_code k (k + 1) c1 c2 s3)
theorem run_spec_l11Reach_of {c1 : Cell} {c2 : Cell} {s3 : ByteArray} {r : Res} (k : Nat) (h : spec_l11Reach (k + 1) (k + 1) c1 c2 s3 = some r) : run_spec_l11Reach [.agg [c1, c2], .one (Cell.str s3)] [] = some r := lim_of ((spec_l11Reach_eq k c1 c2 s3).trans h)
noncomputable def pl_spec_l11Back : List (Nat × Run) := [(fid_spec_l1Has, run_spec_l1Has), (fid_spec_l11At, run_spec_l11At)]
noncomputable def G_spec_l11Back : Ctx := ctx tyTab fiTab pl_spec_l11Back
noncomputable def run_spec_l11Back : Run := lim G_spec_l11Back fid_spec_l11Back
theorem ok_spec_l11Back : FnOk Try.prog OkT fid_spec_l11Back run_spec_l11Back := lim_ok (l := pl_spec_l11Back) Try_mix tyTab_ok fiTab_ok okT (.cons ok_spec_l1Has (.cons ok_spec_l11At .nil)) fid_spec_l11Back
noncomputable def spec_l11Back_l1 (k m : Nat) (b_l0 : Cell → Cell → Int → Cell → Cell → List Entry → Option Res) : Nat → Cell → Cell → Int → Int → Cell → Cell → List Entry → Option Res
  | 0, _, _, _, _, _, _, _ => none
  | n + 1, c11, c12, i13, i14, c15, c16, H17 =>
    (idxA 1 (c16) i13).bind fun c18 =>
    (deref H17 (c18)).bind fun p19 =>
    (cC p19.1 p19.2).bind fun c20 =>
    (lenC c20).bind fun n21 =>
    cond (decide (i14 < (n21 : Int)))
    ((idxA 1 (c15) i13).bind fun c22 =>
    (deref H17 (c22)).bind fun p23 =>
    (cS p23.1 p23.2).bind fun s24 =>
    (callS run_spec_l11At [.agg [c15, c16], .one (Cell.str s24)] H17).bind fun r25 =>
    cond (shapeOk rk_spec_l11At r25)
    ((cI .i64 (cellsAt r25 0) 0).bind fun i26 =>
    cond (i26 == i13)
    ((idxA 1 (c16) i13).bind fun c27 =>
    (deref H17 (c27)).bind fun p28 =>
    (cC p28.1 p28.2).bind fun c29 =>
    (idxA 1 (c29) i14).bind fun c30 =>
    (deref H17 (c30)).bind fun p31 =>
    (cS p31.1 p31.2).bind fun s32 =>
    (callS run_spec_l1Has [.one (c11), .one (Cell.str s32)] H17).bind fun r33 =>
    cond (shapeOk rk_spec_l1Has r33)
    ((cB (cellsAt r33 0) 0).bind fun b34 =>
    cond b34
    ((idxA 1 (c15) i13).bind fun c35 =>
    (deref H17 (c35)).bind fun p36 =>
    (cS p36.1 p36.2).bind fun s37 =>
    (app H17 1 16 (c12) [[Cell.str s37]]).bind fun p38 =>
    b_l0 (c11) (p38.1) (IntKind.i64.wrap (i13 + 1)) (c15) (c16) p38.2)
    (spec_l11Back_l1 k m b_l0 n (c11) (c12) i13 (IntKind.i64.wrap (i14 + 1)) (c15) (c16) H17))
    none)
    (b_l0 (c11) (c12) (IntKind.i64.wrap (i13 + 1)) (c15) (c16) H17))
    none)
    (b_l0 (c11) (c12) (IntKind.i64.wrap (i13 + 1)) (c15) (c16) H17)
noncomputable def spec_l11Back_l0 (k m : Nat) : Nat → Cell → Cell → Int → Cell → Cell → List Entry → Option Res
  | 0, _, _, _, _, _, _ => none
  | n + 1, c4, c5, i6, c7, c8, H9 =>
    (lenC c7).bind fun n10 =>
    cond (decide (i6 < (n10 : Int)))
    (spec_l11Back_l1 k m (spec_l11Back_l0 k m n) m (c4) (c5) i6 0 (c7) (c8) H9)
    (some ([.one (c5)], H9))
noncomputable def spec_l11Back (k m : Nat) (c1 : Cell) (c2 : Cell) (c3 : Cell) : Option Res :=
  spec_l11Back_l0 k m m (c3) (.lst true 1 []) 0 (c1) (c2) []
noncomputable abbrev spec_l11Back_l0_B (k m : Nat) : (Ex → Fr → Option Res) → Fr → Option Res := evC G_spec_l11Back fi_spec_l11Back (evF G_spec_l11Back (k + 1)) m (sub [1, 1, 0, 1, 2, 3] fi_spec_l11Back.code) none
noncomputable abbrev spec_l11Back_l0_K (k m : Nat) : Ex → Fr → Option Res := blockK 0 (seqK (evC G_spec_l11Back fi_spec_l11Back (evF G_spec_l11Back (k + 1)) m (sub [1, 1, 1] fi_spec_l11Back.code) none) (retK G_spec_l11Back fi_spec_l11Back))
noncomputable abbrev spec_l11Back_l1_B (k m : Nat) : (Ex → Fr → Option Res) → Fr → Option Res := evC G_spec_l11Back fi_spec_l11Back (evF G_spec_l11Back (k + 1)) m (sub [1, 1, 0, 1, 2, 3, 1, 0, 2, 1, 2, 3] fi_spec_l11Back.code) none
noncomputable abbrev spec_l11Back_l1_K (k m : Nat) (n_l0 : Nat) : Ex → Fr → Option Res := blockK 2 (blockK 1 (seqK (evC G_spec_l11Back fi_spec_l11Back (evF G_spec_l11Back (k + 1)) m (sub [1, 1, 0, 1, 2, 3, 1, 1] fi_spec_l11Back.code) none) (loopE (fun s => loopK (some [1, 2, 5, 6]) (spec_l11Back_l0_B k m) (spec_l11Back_l0_K k m) n_l0 (keepS (some [1, 2, 5, 6]) s)) (spec_l11Back_l0_K k m))))
theorem spec_l11Back_l1_eq (k m : Nat) (b_l0 : Cell → Cell → Int → Cell → Cell → List Entry → Option Res) (n_l0 : Nat) (h_l0 : ∀ (c4 : Cell) (c5 : Cell) (i6 : Int) (c7 : Cell) (c8 : Cell) (H9 : List Entry), loopK (some [1, 2, 5, 6]) (spec_l11Back_l0_B k m) (spec_l11Back_l0_K k m) n_l0 ⟨fT 56 0 [(1, .av (.one (c4))), (2, .loc 2 0), (5, .av (.one (c5))), (6, .av (.one (Cell.int i6)))], fX 56 0 [(2, [c7, c8])], H9⟩ = b_l0 c4 c5 i6 c7 c8 H9) : ∀ (n : Nat) (c11 : Cell) (c12 : Cell) (i13 : Int) (i14 : Int) (c15 : Cell) (c16 : Cell) (H17 : List Entry), loopK (some [1, 2, 5, 6, 7]) (spec_l11Back_l1_B k m) (spec_l11Back_l1_K k m n_l0) n ⟨fT 56 0 [(1, .av (.one (c11))), (2, .loc 2 0), (5, .av (.one (c12))), (6, .av (.one (Cell.int i13))), (7, .av (.one (Cell.int i14)))], fX 56 0 [(2, [c15, c16])], H17⟩ = spec_l11Back_l1 (k + 1) m b_l0 n c11 c12 i13 i14 c15 c16 H17 := by
  intro n
  induction n with
  | zero => intros; rfl
  | succ n ih =>
    intros
    simp only [spec_l11Back_l1, ← h_l0, ← ih]
    kernel_rfl
theorem spec_l11Back_l0_eq (k m : Nat) : ∀ (n : Nat) (c4 : Cell) (c5 : Cell) (i6 : Int) (c7 : Cell) (c8 : Cell) (H9 : List Entry), loopK (some [1, 2, 5, 6]) (spec_l11Back_l0_B k m) (spec_l11Back_l0_K k m) n ⟨fT 56 0 [(1, .av (.one (c4))), (2, .loc 2 0), (5, .av (.one (c5))), (6, .av (.one (Cell.int i6)))], fX 56 0 [(2, [c7, c8])], H9⟩ = spec_l11Back_l0 (k + 1) m n c4 c5 i6 c7 c8 H9 := by
  intro n
  induction n with
  | zero => intros; rfl
  | succ n ih =>
    intros
    simp only [spec_l11Back_l0, ← spec_l11Back_l1_eq k m _ _ (ih)]
    kernel_rfl
theorem spec_l11Back_code (k m : Nat) (c1 : Cell) (c2 : Cell) (c3 : Cell) : evC G_spec_l11Back fi_spec_l11Back (evF G_spec_l11Back (k + 1)) m fi_spec_l11Back.code none (retK G_spec_l11Back fi_spec_l11Back) (enter fi_spec_l11Back [.agg [c1, c2], .one (c3)] []) = spec_l11Back (k + 1) m c1 c2 c3 := by
  simp only [spec_l11Back, ← spec_l11Back_l0_eq k m]
  kernel_rfl
theorem spec_l11Back_eq (k : Nat) (c1 : Cell) (c2 : Cell) (c3 : Cell) : evF G_spec_l11Back (k + 2) fid_spec_l11Back [.agg [c1, c2], .one (c3)] [] = spec_l11Back (k + 1) (k + 1) c1 c2 c3 :=
  Eq.trans (by kernel_rfl) (spec_l11Back_code k (k + 1) c1 c2 c3)
theorem run_spec_l11Back_of {c1 : Cell} {c2 : Cell} {c3 : Cell} {r : Res} (k : Nat) (h : spec_l11Back (k + 1) (k + 1) c1 c2 c3 = some r) : run_spec_l11Back [.agg [c1, c2], .one (c3)] [] = some r := lim_of ((spec_l11Back_eq k c1 c2 c3).trans h)
noncomputable def pl_spec_l11Way : List (Nat × Run) := [(fid_spec_l1Has, run_spec_l1Has), (fid_spec_l11Next, run_spec_l11Next), (fid_spec_l11Back, run_spec_l11Back)]
noncomputable def G_spec_l11Way : Ctx := ctx tyTab fiTab pl_spec_l11Way
noncomputable def run_spec_l11Way : Run := lim G_spec_l11Way fid_spec_l11Way
theorem ok_spec_l11Way : FnOk Try.prog OkT fid_spec_l11Way run_spec_l11Way := lim_ok (l := pl_spec_l11Way) Try_mix tyTab_ok fiTab_ok okT (.cons ok_spec_l1Has (.cons ok_spec_l11Next (.cons ok_spec_l11Back .nil))) fid_spec_l11Way
noncomputable def spec_l11Way_l2 (k m : Nat) (b_l1 : Cell → Cell → Int → Cell → Cell → List Entry → Option Res) : Nat → Cell → Cell → Int → Cell → Int → Cell → Cell → List Entry → Option Res
  | 0, _, _, _, _, _, _, _, _ => none
  | n + 1, c47, c48, i49, c50, i51, c52, c53, H54 =>
    (lenC c50).bind fun n55 =>
    cond (decide (i51 < (n55 : Int)))
    ((idxA 1 (c47) i49).bind fun c56 =>
    (deref H54 (c56)).bind fun p57 =>
    (cC p57.1 p57.2).bind fun c58 =>
    (idxA 1 (c50) i51).bind fun c59 =>
    (deref H54 (c59)).bind fun p60 =>
    (cS p60.1 p60.2).bind fun s61 =>
    (callS run_spec_l1Has [.one (c58), .one (Cell.str s61)] H54).bind fun r62 =>
    cond (shapeOk rk_spec_l1Has r62)
    ((cB (cellsAt r62 0) 0).bind fun b63 =>
    cond (!b63)
    (spec_l11Way_l2 k m b_l1 n (c47) (c48) i49 (c50) (IntKind.i64.wrap (i51 + 1)) (c52) (c53) H54)
    ((lenC c50).bind fun n64 =>
    cond (i51 == (n64 : Int))
    (some ([.one (c48)], H54))
    ((idxA 1 (c50) i51).bind fun c65 =>
    (deref H54 (c65)).bind fun p66 =>
    (cS p66.1 p66.2).bind fun s67 =>
    (app H54 1 16 (c48) [[Cell.str s67]]).bind fun p68 =>
    b_l1 (c47) (p68.1) (IntKind.i64.wrap (i49 - 1)) (c52) (c53) p68.2)))
    none)
    ((lenC c50).bind fun n69 =>
    cond (i51 == (n69 : Int))
    (some ([.one (c48)], H54))
    ((idxA 1 (c50) i51).bind fun c70 =>
    (deref H54 (c70)).bind fun p71 =>
    (cS p71.1 p71.2).bind fun s72 =>
    (app H54 1 16 (c48) [[Cell.str s72]]).bind fun p73 =>
    b_l1 (c47) (p73.1) (IntKind.i64.wrap (i49 - 1)) (c52) (c53) p73.2))
noncomputable def spec_l11Way_l1 (k m : Nat) : Nat → Cell → Cell → Int → Cell → Cell → List Entry → Option Res
  | 0, _, _, _, _, _, _ => none
  | n + 1, c35, c36, i37, c38, c39, H40 =>
    cond (decide (i37 > 0))
    ((lenC c36).bind fun n41 =>
    (idxA 1 (c36) (IntKind.i64.wrap ((n41 : Int) - 1))).bind fun c42 =>
    (deref H40 (c42)).bind fun p43 =>
    (cS p43.1 p43.2).bind fun s44 =>
    (callL run_spec_l11Next [.agg [c38, c39], .one (Cell.str s44)] H40).bind fun r45 =>
    cond (shapeOk rk_spec_l11Next r45.1)
    ((cC (cellsAt r45.1 0) 0).bind fun c46 =>
    spec_l11Way_l2 k m (spec_l11Way_l1 k m n) m (c35) (c36) i37 (c46) 0 (c38) (c39) r45.2)
    none)
    (some ([.one (c36)], H40))
noncomputable def spec_l11Way_l0 (k m : Nat) : Nat → ByteArray → Cell → Cell → Cell → List Entry → Option Res
  | 0, _, _, _, _, _ => none
  | n + 1, s4, c5, c6, c7, H8 =>
    (lenC c5).bind fun n9 =>
    cond ((n9 : Int) == 1)
    ((lenC c5).bind fun n10 =>
    (idxA 1 (c5) (IntKind.i64.wrap ((n10 : Int) - 1))).bind fun c11 =>
    (deref H8 (c11)).bind fun p12 =>
    (cC p12.1 p12.2).bind fun c13 =>
    (callL run_spec_l11Back [.agg [c6, c7], .one (c13)] H8).bind fun r14 =>
    cond (shapeOk rk_spec_l11Back r14.1)
    ((cC (cellsAt r14.1 0) 0).bind fun c15 =>
    restK [c15] fun d16 =>
    (srcRows r14.2 1 (.lst true 1 (chunks 1 1 d16))).bind fun r17 =>
    (app r14.2 1 24 (c5) r17).bind fun p18 =>
    spec_l11Way_l0 k m n s4 (p18.1) (c6) (c7) p18.2)
    none)
    ((lenC c5).bind fun n19 =>
    (idxA 1 (c5) (IntKind.i64.wrap ((n19 : Int) - 1))).bind fun c20 =>
    (deref H8 (c20)).bind fun p21 =>
    (cC p21.1 p21.2).bind fun c22 =>
    (callS run_spec_l1Has [.one (c22), .one (Cell.str s4)] H8).bind fun r23 =>
    cond (shapeOk rk_spec_l1Has r23)
    ((cB (cellsAt r23 0) 0).bind fun b24 =>
    cond (!b24)
    ((lenC c5).bind fun n25 =>
    (idxA 1 (c5) (IntKind.i64.wrap ((n25 : Int) - 1))).bind fun c26 =>
    (deref H8 (c26)).bind fun p27 =>
    (cC p27.1 p27.2).bind fun c28 =>
    (callL run_spec_l11Back [.agg [c6, c7], .one (c28)] H8).bind fun r29 =>
    cond (shapeOk rk_spec_l11Back r29.1)
    ((cC (cellsAt r29.1 0) 0).bind fun c30 =>
    restK [c30] fun d31 =>
    (srcRows r29.2 1 (.lst true 1 (chunks 1 1 d31))).bind fun r32 =>
    (app r29.2 1 24 (c5) r32).bind fun p33 =>
    spec_l11Way_l0 k m n s4 (p33.1) (c6) (c7) p33.2)
    none)
    ((lenC c5).bind fun n34 =>
    spec_l11Way_l1 k m m (c5) (.lst true 1 [[Cell.str s4]]) (IntKind.i64.wrap ((n34 : Int) - 2)) (c6) (c7) H8))
    none)
noncomputable def spec_l11Way (k m : Nat) (c1 : Cell) (c2 : Cell) (s3 : ByteArray) : Option Res :=
  spec_l11Way_l0 k m m s3 (.lst true 1 [[.lst true 1 [[Cell.str s3]]]]) (c1) (c2) []
noncomputable abbrev spec_l11Way_l0_B (k m : Nat) : (Ex → Fr → Option Res) → Fr → Option Res := evC G_spec_l11Way fi_spec_l11Way (evF G_spec_l11Way (k + 1)) m (sub [1, 1, 0, 2, 3] fi_spec_l11Way.code) none
noncomputable abbrev spec_l11Way_l0_K (k m : Nat) : Ex → Fr → Option Res := blockK 0 (seqK (evC G_spec_l11Way fi_spec_l11Way (evF G_spec_l11Way (k + 1)) m (sub [1, 1, 1] fi_spec_l11Way.code) none) (retK G_spec_l11Way fi_spec_l11Way))
noncomputable abbrev spec_l11Way_l1_B (k m : Nat) : (Ex → Fr → Option Res) → Fr → Option Res := evC G_spec_l11Way fi_spec_l11Way (evF G_spec_l11Way (k + 1)) m (sub [1, 1, 1, 1, 0, 1, 2, 3] fi_spec_l11Way.code) none
noncomputable abbrev spec_l11Way_l1_K (k m : Nat) : Ex → Fr → Option Res := blockK 2 (seqK (evC G_spec_l11Way fi_spec_l11Way (evF G_spec_l11Way (k + 1)) m (sub [1, 1, 1, 1, 1] fi_spec_l11Way.code) none) (retK G_spec_l11Way fi_spec_l11Way))
noncomputable abbrev spec_l11Way_l2_B (k m : Nat) : (Ex → Fr → Option Res) → Fr → Option Res := evC G_spec_l11Way fi_spec_l11Way (evF G_spec_l11Way (k + 1)) m (sub [1, 1, 1, 1, 0, 1, 2, 3, 1, 0, 2, 1, 1, 0, 2, 3] fi_spec_l11Way.code) none
noncomputable abbrev spec_l11Way_l2_K (k m : Nat) (n_l1 : Nat) : Ex → Fr → Option Res := blockK 4 (seqK (evC G_spec_l11Way fi_spec_l11Way (evF G_spec_l11Way (k + 1)) m (sub [1, 1, 1, 1, 0, 1, 2, 3, 1, 0, 2, 1, 1, 1] fi_spec_l11Way.code) none) (blockK 3 (seqK (evC G_spec_l11Way fi_spec_l11Way (evF G_spec_l11Way (k + 1)) m (sub [1, 1, 1, 1, 0, 1, 2, 3, 1, 1] fi_spec_l11Way.code) none) (loopE (fun s => loopK (some [2, 5, 6, 7]) (spec_l11Way_l1_B k m) (spec_l11Way_l1_K k m) n_l1 (keepS (some [2, 5, 6, 7]) s)) (spec_l11Way_l1_K k m)))))
theorem spec_l11Way_l2_eq (k m : Nat) (b_l1 : Cell → Cell → Int → Cell → Cell → List Entry → Option Res) (n_l1 : Nat) (h_l1 : ∀ (c35 : Cell) (c36 : Cell) (i37 : Int) (c38 : Cell) (c39 : Cell) (H40 : List Entry), loopK (some [2, 5, 6, 7]) (spec_l11Way_l1_B k m) (spec_l11Way_l1_K k m) n_l1 ⟨fT 86 0 [(2, .loc 2 0), (5, .av (.one (c35))), (6, .av (.one (c36))), (7, .av (.one (Cell.int i37)))], fX 86 0 [(2, [c38, c39])], H40⟩ = b_l1 c35 c36 i37 c38 c39 H40) : ∀ (n : Nat) (c47 : Cell) (c48 : Cell) (i49 : Int) (c50 : Cell) (i51 : Int) (c52 : Cell) (c53 : Cell) (H54 : List Entry), loopK (some [2, 5, 6, 7, 8, 9]) (spec_l11Way_l2_B k m) (spec_l11Way_l2_K k m n_l1) n ⟨fT 86 0 [(2, .loc 2 0), (5, .av (.one (c47))), (6, .av (.one (c48))), (7, .av (.one (Cell.int i49))), (8, .av (.one (c50))), (9, .av (.one (Cell.int i51)))], fX 86 0 [(2, [c52, c53])], H54⟩ = spec_l11Way_l2 (k + 1) m b_l1 n c47 c48 i49 c50 i51 c52 c53 H54 := by
  intro n
  induction n with
  | zero => intros; rfl
  | succ n ih =>
    intros
    simp only [spec_l11Way_l2, ← h_l1, ← ih]
    kernel_rfl
theorem spec_l11Way_l1_eq (k m : Nat) : ∀ (n : Nat) (c35 : Cell) (c36 : Cell) (i37 : Int) (c38 : Cell) (c39 : Cell) (H40 : List Entry), loopK (some [2, 5, 6, 7]) (spec_l11Way_l1_B k m) (spec_l11Way_l1_K k m) n ⟨fT 86 0 [(2, .loc 2 0), (5, .av (.one (c35))), (6, .av (.one (c36))), (7, .av (.one (Cell.int i37)))], fX 86 0 [(2, [c38, c39])], H40⟩ = spec_l11Way_l1 (k + 1) m n c35 c36 i37 c38 c39 H40 := by
  intro n
  induction n with
  | zero => intros; rfl
  | succ n ih =>
    intros
    simp only [spec_l11Way_l1, ← spec_l11Way_l2_eq k m _ _ (ih)]
    kernel_rfl
theorem spec_l11Way_l0_eq (k m : Nat) : ∀ (n : Nat) (s4 : ByteArray) (c5 : Cell) (c6 : Cell) (c7 : Cell) (H8 : List Entry), loopK (some [1, 2, 5]) (spec_l11Way_l0_B k m) (spec_l11Way_l0_K k m) n ⟨fT 86 0 [(1, .av (.one (Cell.str s4))), (2, .loc 2 0), (5, .av (.one (c5)))], fX 86 0 [(2, [c6, c7])], H8⟩ = spec_l11Way_l0 (k + 1) m n s4 c5 c6 c7 H8 := by
  intro n
  induction n with
  | zero => intros; rfl
  | succ n ih =>
    intros
    simp only [spec_l11Way_l0, ← spec_l11Way_l1_eq k m, ← ih]
    kernel_rfl
theorem spec_l11Way_code (k m : Nat) (c1 : Cell) (c2 : Cell) (s3 : ByteArray) : evC G_spec_l11Way fi_spec_l11Way (evF G_spec_l11Way (k + 1)) m fi_spec_l11Way.code none (retK G_spec_l11Way fi_spec_l11Way) (enter fi_spec_l11Way [.agg [c1, c2], .one (Cell.str s3)] []) = spec_l11Way (k + 1) m c1 c2 s3 := by
  simp only [spec_l11Way, ← spec_l11Way_l0_eq k m]
  kernel_rfl
theorem spec_l11Way_eq (k : Nat) (c1 : Cell) (c2 : Cell) (s3 : ByteArray) : evF G_spec_l11Way (k + 2) fid_spec_l11Way [.agg [c1, c2], .one (Cell.str s3)] [] = spec_l11Way (k + 1) (k + 1) c1 c2 s3 :=
  Eq.trans (by kernel_rfl) (spec_l11Way_code k (k + 1) c1 c2 s3)
theorem run_spec_l11Way_of {c1 : Cell} {c2 : Cell} {s3 : ByteArray} {r : Res} (k : Nat) (h : spec_l11Way (k + 1) (k + 1) c1 c2 s3 = some r) : run_spec_l11Way [.agg [c1, c2], .one (Cell.str s3)] [] = some r := lim_of ((spec_l11Way_eq k c1 c2 s3).trans h)
noncomputable def pl_spec_l11Ring : List (Nat × Run) := [(fid_spec_l1Has, run_spec_l1Has), (fid_spec_l11Reach, run_spec_l11Reach), (fid_spec_l11Way, run_spec_l11Way)]
noncomputable def G_spec_l11Ring : Ctx := ctx tyTab fiTab pl_spec_l11Ring
noncomputable def run_spec_l11Ring : Run := lim G_spec_l11Ring fid_spec_l11Ring
theorem ok_spec_l11Ring : FnOk Try.prog OkT fid_spec_l11Ring run_spec_l11Ring := lim_ok (l := pl_spec_l11Ring) Try_mix tyTab_ok fiTab_ok okT (.cons ok_spec_l1Has (.cons ok_spec_l11Reach (.cons ok_spec_l11Way .nil))) fid_spec_l11Ring
noncomputable def spec_l11Ring_l0 (k m : Nat) : Nat → Int → Cell → Cell → Option Res
  | 0, _, _, _ => none
  | n + 1, i3, c4, c5 =>
    (lenC c4).bind fun n6 =>
    cond (decide (i3 < (n6 : Int)))
    ((idxA 1 (c4) i3).bind fun c7 =>
    (deref [] (c7)).bind fun p8 =>
    (cS p8.1 p8.2).bind fun s9 =>
    (callL run_spec_l11Reach [.agg [c4, c5], .one (Cell.str s9)] []).bind fun r10 =>
    cond (shapeOk rk_spec_l11Reach r10.1)
    ((cC (cellsAt r10.1 0) 0).bind fun c11 =>
    emptyK r10.2
    ((idxA 1 (c4) i3).bind fun c12 =>
    (deref [] (c12)).bind fun p13 =>
    (cS p13.1 p13.2).bind fun s14 =>
    (callS run_spec_l1Has [.one (c11), .one (Cell.str s14)] []).bind fun r15 =>
    cond (shapeOk rk_spec_l1Has r15)
    ((cB (cellsAt r15 0) 0).bind fun b16 =>
    cond b16
    ((idxA 1 (c4) i3).bind fun c17 =>
    (deref [] (c17)).bind fun p18 =>
    (cS p18.1 p18.2).bind fun s19 =>
    (callL run_spec_l11Way [.agg [c4, c5], .one (Cell.str s19)] []).bind fun r20 =>
    cond (shapeOk rk_spec_l11Way r20.1)
    ((cC (cellsAt r20.1 0) 0).bind fun c21 =>
    some ([.one (c21)], r20.2))
    none)
    (spec_l11Ring_l0 k m n (IntKind.i64.wrap (i3 + 1)) (c4) (c5)))
    none))
    none)
    (some ([.one (.lst true 1 [])], []))
noncomputable def spec_l11Ring (k m : Nat) (c1 : Cell) (c2 : Cell) : Option Res :=
  spec_l11Ring_l0 k m m 0 (c1) (c2)
noncomputable abbrev spec_l11Ring_l0_B (k m : Nat) : (Ex → Fr → Option Res) → Fr → Option Res := evC G_spec_l11Ring fi_spec_l11Ring (evF G_spec_l11Ring (k + 1)) m (sub [1, 0, 1, 2, 3] fi_spec_l11Ring.code) none
noncomputable abbrev spec_l11Ring_l0_K (k m : Nat) : Ex → Fr → Option Res := blockK 0 (seqK (evC G_spec_l11Ring fi_spec_l11Ring (evF G_spec_l11Ring (k + 1)) m (sub [1, 1] fi_spec_l11Ring.code) none) (retK G_spec_l11Ring fi_spec_l11Ring))
theorem spec_l11Ring_l0_eq (k m : Nat) : ∀ (n : Nat) (i3 : Int) (c4 : Cell) (c5 : Cell), loopK (some [1, 3]) (spec_l11Ring_l0_B k m) (spec_l11Ring_l0_K k m) n ⟨fT 32 0 [(1, .loc 1 0), (3, .av (.one (Cell.int i3)))], fX 32 0 [(1, [c4, c5])], []⟩ = spec_l11Ring_l0 (k + 1) m n i3 c4 c5 := by
  intro n
  induction n with
  | zero => intros; rfl
  | succ n ih =>
    intros
    simp only [spec_l11Ring_l0, ← ih]
    kernel_rfl
theorem spec_l11Ring_code (k m : Nat) (c1 : Cell) (c2 : Cell) : evC G_spec_l11Ring fi_spec_l11Ring (evF G_spec_l11Ring (k + 1)) m fi_spec_l11Ring.code none (retK G_spec_l11Ring fi_spec_l11Ring) (enter fi_spec_l11Ring [.agg [c1, c2]] []) = spec_l11Ring (k + 1) m c1 c2 := by
  simp only [spec_l11Ring, ← spec_l11Ring_l0_eq k m]
  kernel_rfl
theorem spec_l11Ring_eq (k : Nat) (c1 : Cell) (c2 : Cell) : evF G_spec_l11Ring (k + 2) fid_spec_l11Ring [.agg [c1, c2]] [] = spec_l11Ring (k + 1) (k + 1) c1 c2 :=
  Eq.trans (by kernel_rfl) (spec_l11Ring_code k (k + 1) c1 c2)
theorem run_spec_l11Ring_of {c1 : Cell} {c2 : Cell} {r : Res} (k : Nat) (h : spec_l11Ring (k + 1) (k + 1) c1 c2 = some r) : run_spec_l11Ring [.agg [c1, c2]] [] = some r := lim_of ((spec_l11Ring_eq k c1 c2).trans h)
noncomputable def pl_spec_l13Graph : List (Nat × Run) := []
noncomputable def G_spec_l13Graph : Ctx := ctx tyTab fiTab pl_spec_l13Graph
noncomputable def run_spec_l13Graph : Run := lim G_spec_l13Graph fid_spec_l13Graph
theorem ok_spec_l13Graph : FnOk Try.prog OkT fid_spec_l13Graph run_spec_l13Graph := lim_ok (l := pl_spec_l13Graph) Try_mix tyTab_ok fiTab_ok okT .nil fid_spec_l13Graph
noncomputable def spec_l13Graph_l0 (k m : Nat) : Nat → Int → Cell → Cell → Cell → Cell → List Entry → Option Res
  | 0, _, _, _, _, _, _ => none
  | n + 1, i3, c4, c5, c6, c7, H8 =>
    (lenC c4).bind fun n9 =>
    cond (decide (i3 < (n9 : Int)))
    ((lenC c5).bind fun n10 =>
    cond (decide (i3 < (n10 : Int)))
    ((idxA 1 (c4) i3).bind fun c11 =>
    (deref H8 (c11)).bind fun p12 =>
    (cS p12.1 p12.2).bind fun s13 =>
    (srcRows (H8 ++ [Entry.mk 1 [[Cell.str s13]] 0 false]) 1 (.vs H8.length 1 0 1 0)).bind fun r14 =>
    (app (H8 ++ [Entry.mk 1 [[Cell.str s13]] 0 false]) 1 16 (c6) r14).bind fun p15 =>
    (idxA 1 (c5) i3).bind fun c16 =>
    (deref [] (c16)).bind fun p17 =>
    (cC p17.1 p17.2).bind fun c18 =>
    (srcRows (p15.2 ++ [Entry.mk 1 [] 0 false]) 1 c18).bind fun r19 =>
    (app (p15.2 ++ [Entry.mk 1 [] 0 false]) 1 16 ((.vs p15.2.length 1 0 0 0)) r19).bind fun p20 =>
    (srcRows (p20.2 ++ [Entry.mk 1 [[p20.1]] 0 false]) 1 (.vs p20.2.length 1 0 1 0)).bind fun r21 =>
    (app (p20.2 ++ [Entry.mk 1 [[p20.1]] 0 false]) 1 24 (c7) r21).bind fun p22 =>
    spec_l13Graph_l0 k m n (IntKind.i64.wrap (i3 + 1)) (c4) (c5) (p15.1) (p22.1) p22.2)
    (some ([.agg [c6, c7]], H8)))
    (some ([.agg [c6, c7]], H8))
noncomputable def spec_l13Graph (k m : Nat) (c1 : Cell) (c2 : Cell) : Option Res :=
  spec_l13Graph_l0 k m m 0 (c1) (c2) (.lst true 1 []) (.lst true 1 []) []
noncomputable abbrev spec_l13Graph_l0_B (k m : Nat) : (Ex → Fr → Option Res) → Fr → Option Res := evC G_spec_l13Graph fi_spec_l13Graph (evF G_spec_l13Graph (k + 1)) m (sub [1, 1, 0, 1, 2, 3] fi_spec_l13Graph.code) none
noncomputable abbrev spec_l13Graph_l0_K (k m : Nat) : Ex → Fr → Option Res := blockK 0 (seqK (evC G_spec_l13Graph fi_spec_l13Graph (evF G_spec_l13Graph (k + 1)) m (sub [1, 1, 1] fi_spec_l13Graph.code) none) (retK G_spec_l13Graph fi_spec_l13Graph))
theorem spec_l13Graph_l0_eq (k m : Nat) : ∀ (n : Nat) (i3 : Int) (c4 : Cell) (c5 : Cell) (c6 : Cell) (c7 : Cell) (H8 : List Entry), loopK (some [1, 2, 3, 4]) (spec_l13Graph_l0_B k m) (spec_l13Graph_l0_K k m) n ⟨fT 43 0 [(1, .loc 1 0), (2, .loc 2 0), (3, .loc 3 0), (4, .av (.one (Cell.int i3)))], fX 43 0 [(1, [c4, c5]), (2, [.lst true 1 [], .lst true 1 []]), (3, [c6, c7])], H8⟩ = spec_l13Graph_l0 (k + 1) m n i3 c4 c5 c6 c7 H8 := by
  intro n
  induction n with
  | zero => intros; rfl
  | succ n ih =>
    intros
    simp only [spec_l13Graph_l0, ← ih]
    kernel_rfl
theorem spec_l13Graph_code (k m : Nat) (c1 : Cell) (c2 : Cell) : evC G_spec_l13Graph fi_spec_l13Graph (evF G_spec_l13Graph (k + 1)) m fi_spec_l13Graph.code none (retK G_spec_l13Graph fi_spec_l13Graph) (enter fi_spec_l13Graph [.agg [c1, c2]] []) = spec_l13Graph (k + 1) m c1 c2 := by
  simp only [spec_l13Graph, ← spec_l13Graph_l0_eq k m]
  kernel_rfl
theorem spec_l13Graph_eq (k : Nat) (c1 : Cell) (c2 : Cell) : evF G_spec_l13Graph (k + 2) fid_spec_l13Graph [.agg [c1, c2]] [] = spec_l13Graph (k + 1) (k + 1) c1 c2 :=
  Eq.trans (by kernel_rfl) (spec_l13Graph_code k (k + 1) c1 c2)
theorem run_spec_l13Graph_of {c1 : Cell} {c2 : Cell} {r : Res} (k : Nat) (h : spec_l13Graph (k + 1) (k + 1) c1 c2 = some r) : run_spec_l13Graph [.agg [c1, c2]] [] = some r := lim_of ((spec_l13Graph_eq k c1 c2).trans h)
noncomputable def pl_spec_TaskRing : List (Nat × Run) := [(fid_spec_l11Ring, run_spec_l11Ring), (fid_spec_l13Graph, run_spec_l13Graph)]
noncomputable def G_spec_TaskRing : Ctx := ctx tyTab fiTab pl_spec_TaskRing
noncomputable def run_spec_TaskRing : Run := lim G_spec_TaskRing fid_spec_TaskRing
theorem ok_spec_TaskRing : FnOk Try.prog OkT fid_spec_TaskRing run_spec_TaskRing := lim_ok (l := pl_spec_TaskRing) Try_mix tyTab_ok fiTab_ok okT (.cons ok_spec_l11Ring (.cons ok_spec_l13Graph .nil)) fid_spec_TaskRing
noncomputable def spec_TaskRing (k m : Nat) (c1 : Cell) (c2 : Cell) : Option Res :=
  (callL run_spec_l13Graph [.agg [c1, c2]] []).bind fun r3 =>
  cond (shapeOk rk_spec_l13Graph r3.1)
  ((cC (cellsAt r3.1 0) 0).bind fun c4 =>
  (cC (cellsAt r3.1 0) 1).bind fun c5 =>
  (callL run_spec_l11Ring [.agg [c4, c5]] r3.2).bind fun r6 =>
  cond (shapeOk rk_spec_l11Ring r6.1)
  ((cC (cellsAt r6.1 0) 0).bind fun c7 =>
  some ([.one (c7)], r6.2))
  none)
  none
theorem spec_TaskRing_code (k m : Nat) (c1 : Cell) (c2 : Cell) : evC G_spec_TaskRing fi_spec_TaskRing (evF G_spec_TaskRing (k + 1)) m fi_spec_TaskRing.code none (retK G_spec_TaskRing fi_spec_TaskRing) (enter fi_spec_TaskRing [.agg [c1, c2]] []) = spec_TaskRing (k + 1) m c1 c2 := by
  kernel_rfl
theorem spec_TaskRing_eq (k : Nat) (c1 : Cell) (c2 : Cell) : evF G_spec_TaskRing (k + 2) fid_spec_TaskRing [.agg [c1, c2]] [] = spec_TaskRing (k + 1) (k + 1) c1 c2 :=
  Eq.trans (by kernel_rfl) (spec_TaskRing_code k (k + 1) c1 c2)
theorem run_spec_TaskRing_of {c1 : Cell} {c2 : Cell} {r : Res} (k : Nat) (h : spec_TaskRing (k + 1) (k + 1) c1 c2 = some r) : run_spec_TaskRing [.agg [c1, c2]] [] = some r := lim_of ((spec_TaskRing_eq k c1 c2).trans h)
noncomputable def pl_laws_toStringS : List (Nat × Run) := []
noncomputable def G_laws_toStringS : Ctx := ctx tyTab fiTab pl_laws_toStringS
noncomputable def run_laws_toStringS : Run := lim G_laws_toStringS fid_laws_toStringS
theorem ok_laws_toStringS : FnOk Try.prog OkT fid_laws_toStringS run_laws_toStringS := lim_ok (l := pl_laws_toStringS) Try_mix tyTab_ok fiTab_ok okT .nil fid_laws_toStringS
noncomputable def laws_toStringS_l0 (k m : Nat) : Nat → Cell → Cell → Int → List Entry → Option Res
  | 0, _, _, _, _ => none
  | n + 1, c3, c4, i5, H6 =>
    (lenC c3).bind fun n7 =>
    cond (decide (i5 < (n7 : Int)))
    ((idxA 1 (c3) i5).bind fun c8 =>
    (deref H6 (c8)).bind fun p9 =>
    (cS p9.1 p9.2).bind fun s10 =>
    (idxA 1 (c4) i5).bind fun c11 =>
    (hStore H6 (c11) [Cell.str s10]).bind fun h12 =>
    laws_toStringS_l0 k m n (c3) (c4) (IntKind.i64.wrap (i5 + 1)) h12)
    (some ([.one (c4)], H6))
noncomputable def laws_toStringS (k m : Nat) (c1 : Cell) : Option Res :=
  (lenC c1).bind fun n2 =>
  if 0 ≤ (n2 : Int) ∧ (n2 : Int) ≤ (n2 : Int) ∧ (n2 : Int) * 16 ≤ bound ∧ (n2 : Int) ≤ bound then
  (laws_toStringS_l0 k m m (c1) ((.vs 0 1 0 (n2 : Int).toNat 0)) 0 [Entry.mk 1 (mkRows (n2 : Int).toNat [Cell.str (bs [])]) 0 false]) else none
noncomputable abbrev laws_toStringS_l0_B (k m : Nat) : (Ex → Fr → Option Res) → Fr → Option Res := evC G_laws_toStringS fi_laws_toStringS (evF G_laws_toStringS (k + 1)) m (sub [1, 1, 0, 1, 2, 3] fi_laws_toStringS.code) none
noncomputable abbrev laws_toStringS_l0_K (k m : Nat) : Ex → Fr → Option Res := blockK 0 (seqK (evC G_laws_toStringS fi_laws_toStringS (evF G_laws_toStringS (k + 1)) m (sub [1, 1, 1] fi_laws_toStringS.code) none) (retK G_laws_toStringS fi_laws_toStringS))
theorem laws_toStringS_l0_eq (k m : Nat) : ∀ (n : Nat) (c3 : Cell) (c4 : Cell) (i5 : Int) (H6 : List Entry), loopK (some [0, 3, 4]) (laws_toStringS_l0_B k m) (laws_toStringS_l0_K k m) n ⟨fT 22 0 [(0, .av (.one (c3))), (3, .av (.one (c4))), (4, .av (.one (Cell.int i5)))], fX 22 0 [], H6⟩ = laws_toStringS_l0 (k + 1) m n c3 c4 i5 H6 := by
  intro n
  induction n with
  | zero => intros; rfl
  | succ n ih =>
    intros
    simp only [laws_toStringS_l0, ← ih]
    kernel_rfl
theorem laws_toStringS_code (k m : Nat) (c1 : Cell) : evC G_laws_toStringS fi_laws_toStringS (evF G_laws_toStringS (k + 1)) m fi_laws_toStringS.code none (retK G_laws_toStringS fi_laws_toStringS) (enter fi_laws_toStringS [.one (c1)] []) = laws_toStringS (k + 1) m c1 := by
  simp only [laws_toStringS, ← laws_toStringS_l0_eq k m]
  kernel_rfl
theorem laws_toStringS_eq (k : Nat) (c1 : Cell) : evF G_laws_toStringS (k + 2) fid_laws_toStringS [.one (c1)] [] = laws_toStringS (k + 1) (k + 1) c1 :=
  Eq.trans (by kernel_rfl) (laws_toStringS_code k (k + 1) c1)
theorem run_laws_toStringS_of {c1 : Cell} {r : Res} (k : Nat) (h : laws_toStringS (k + 1) (k + 1) c1 = some r) : run_laws_toStringS [.one (c1)] [] = some r := lim_of ((laws_toStringS_eq k c1).trans h)
noncomputable def pl_laws_toStringSS : List (Nat × Run) := [(fid_laws_toStringS, run_laws_toStringS)]
noncomputable def G_laws_toStringSS : Ctx := ctx tyTab fiTab pl_laws_toStringSS
noncomputable def run_laws_toStringSS : Run := lim G_laws_toStringSS fid_laws_toStringSS
theorem ok_laws_toStringSS : FnOk Try.prog OkT fid_laws_toStringSS run_laws_toStringSS := lim_ok (l := pl_laws_toStringSS) Try_mix tyTab_ok fiTab_ok okT (.cons ok_laws_toStringS .nil) fid_laws_toStringSS
noncomputable def laws_toStringSS_l0 (k m : Nat) : Nat → Cell → Cell → Int → List Entry → Option Res
  | 0, _, _, _, _ => none
  | n + 1, c3, c4, i5, H6 =>
    (lenC c3).bind fun n7 =>
    cond (decide (i5 < (n7 : Int)))
    ((idxA 1 (c3) i5).bind fun c8 =>
    (deref H6 (c8)).bind fun p9 =>
    (cC p9.1 p9.2).bind fun c10 =>
    (callF run_laws_toStringS [.one (c10)] H6).bind fun r11 =>
    cond (shapeOk rk_laws_toStringS r11.1)
    ((cC (cellsAt r11.1 0) 0).bind fun c12 =>
    (idxA 1 (c4) i5).bind fun c13 =>
    (hStore r11.2 (c13) [c12]).bind fun h14 =>
    laws_toStringSS_l0 k m n (c3) (c4) (IntKind.i64.wrap (i5 + 1)) h14)
    none)
    (some ([.one (c4)], H6))
noncomputable def laws_toStringSS (k m : Nat) (c1 : Cell) : Option Res :=
  (lenC c1).bind fun n2 =>
  if 0 ≤ (n2 : Int) ∧ (n2 : Int) ≤ (n2 : Int) ∧ (n2 : Int) * 24 ≤ bound ∧ (n2 : Int) ≤ bound then
  (laws_toStringSS_l0 k m m (c1) ((.vs 0 1 0 (n2 : Int).toNat 0)) 0 [Entry.mk 1 (mkRows (n2 : Int).toNat [.lst true 1 []]) 0 false]) else none
noncomputable abbrev laws_toStringSS_l0_B (k m : Nat) : (Ex → Fr → Option Res) → Fr → Option Res := evC G_laws_toStringSS fi_laws_toStringSS (evF G_laws_toStringSS (k + 1)) m (sub [1, 1, 0, 1, 2, 3] fi_laws_toStringSS.code) none
noncomputable abbrev laws_toStringSS_l0_K (k m : Nat) : Ex → Fr → Option Res := blockK 0 (seqK (evC G_laws_toStringSS fi_laws_toStringSS (evF G_laws_toStringSS (k + 1)) m (sub [1, 1, 1] fi_laws_toStringSS.code) none) (retK G_laws_toStringSS fi_laws_toStringSS))
theorem laws_toStringSS_l0_eq (k m : Nat) : ∀ (n : Nat) (c3 : Cell) (c4 : Cell) (i5 : Int) (H6 : List Entry), loopK (some [0, 3, 4]) (laws_toStringSS_l0_B k m) (laws_toStringSS_l0_K k m) n ⟨fT 23 0 [(0, .av (.one (c3))), (3, .av (.one (c4))), (4, .av (.one (Cell.int i5)))], fX 23 0 [], H6⟩ = laws_toStringSS_l0 (k + 1) m n c3 c4 i5 H6 := by
  intro n
  induction n with
  | zero => intros; rfl
  | succ n ih =>
    intros
    simp only [laws_toStringSS_l0, ← ih]
    kernel_rfl
theorem laws_toStringSS_code (k m : Nat) (c1 : Cell) : evC G_laws_toStringSS fi_laws_toStringSS (evF G_laws_toStringSS (k + 1)) m fi_laws_toStringSS.code none (retK G_laws_toStringSS fi_laws_toStringSS) (enter fi_laws_toStringSS [.one (c1)] []) = laws_toStringSS (k + 1) m c1 := by
  simp only [laws_toStringSS, ← laws_toStringSS_l0_eq k m]
  kernel_rfl
theorem laws_toStringSS_eq (k : Nat) (c1 : Cell) : evF G_laws_toStringSS (k + 2) fid_laws_toStringSS [.one (c1)] [] = laws_toStringSS (k + 1) (k + 1) c1 :=
  Eq.trans (by kernel_rfl) (laws_toStringSS_code k (k + 1) c1)
theorem run_laws_toStringSS_of {c1 : Cell} {r : Res} (k : Nat) (h : laws_toStringSS (k + 1) (k + 1) c1 = some r) : run_laws_toStringSS [.one (c1)] [] = some r := lim_of ((laws_toStringSS_eq k c1).trans h)
noncomputable def pl_laws_toPlan : List (Nat × Run) := [(fid_laws_toStringS, run_laws_toStringS), (fid_laws_toStringSS, run_laws_toStringSS)]
noncomputable def G_laws_toPlan : Ctx := ctx tyTab fiTab pl_laws_toPlan
noncomputable def run_laws_toPlan : Run := lim G_laws_toPlan fid_laws_toPlan
theorem ok_laws_toPlan : FnOk Try.prog OkT fid_laws_toPlan run_laws_toPlan := lim_ok (l := pl_laws_toPlan) Try_mix tyTab_ok fiTab_ok okT (.cons ok_laws_toStringS (.cons ok_laws_toStringSS .nil)) fid_laws_toPlan
noncomputable def laws_toPlan (k m : Nat) (c1 : Cell) (c2 : Cell) : Option Res :=
  (callF run_laws_toStringS [.one (c1)] []).bind fun r3 =>
  cond (shapeOk rk_laws_toStringS r3.1)
  ((cC (cellsAt r3.1 0) 0).bind fun c4 =>
  (callF run_laws_toStringSS [.one (c2)] r3.2).bind fun r5 =>
  cond (shapeOk rk_laws_toStringSS r5.1)
  ((cC (cellsAt r5.1 0) 0).bind fun c6 =>
  some ([.agg [c4, c6]], r5.2))
  none)
  none
theorem laws_toPlan_code (k m : Nat) (c1 : Cell) (c2 : Cell) : evC G_laws_toPlan fi_laws_toPlan (evF G_laws_toPlan (k + 1)) m fi_laws_toPlan.code none (retK G_laws_toPlan fi_laws_toPlan) (enter fi_laws_toPlan [.agg [c1, c2]] []) = laws_toPlan (k + 1) m c1 c2 := by
  kernel_rfl
theorem laws_toPlan_eq (k : Nat) (c1 : Cell) (c2 : Cell) : evF G_laws_toPlan (k + 2) fid_laws_toPlan [.agg [c1, c2]] [] = laws_toPlan (k + 1) (k + 1) c1 c2 :=
  Eq.trans (by kernel_rfl) (laws_toPlan_code k (k + 1) c1 c2)
theorem run_laws_toPlan_of {c1 : Cell} {c2 : Cell} {r : Res} (k : Nat) (h : laws_toPlan (k + 1) (k + 1) c1 c2 = some r) : run_laws_toPlan [.agg [c1, c2]] [] = some r := lim_of ((laws_toPlan_eq k c1 c2).trans h)
noncomputable def pl_slices_Clone_string : List (Nat × Run) := []
noncomputable def G_slices_Clone_string : Ctx := ctx tyTab fiTab pl_slices_Clone_string
noncomputable def run_slices_Clone_string : Run := lim G_slices_Clone_string fid_slices_Clone_string
theorem ok_slices_Clone_string : FnOk Try.prog OkT fid_slices_Clone_string run_slices_Clone_string := lim_ok (l := pl_slices_Clone_string) Try_mix tyTab_ok fiTab_ok okT .nil fid_slices_Clone_string
noncomputable def slices_Clone_string (k m : Nat) (c1 : Cell) : Option Res :=
  nilC (c1)
  (both
  (some ([.one (.lst true 1 [])], []))
  ((srcRows [] 1 c1).bind fun r2 =>
  (app [] 1 16 (.lst true 1 []) r2).bind fun p3 =>
  some ([.one (p3.1)], p3.2)))
  ((srcRows [] 1 c1).bind fun r4 =>
  (app [] 1 16 (.lst true 1 []) r4).bind fun p5 =>
  some ([.one (p5.1)], p5.2))
theorem slices_Clone_string_code (k m : Nat) (c1 : Cell) : evC G_slices_Clone_string fi_slices_Clone_string (evF G_slices_Clone_string (k + 1)) m fi_slices_Clone_string.code none (retK G_slices_Clone_string fi_slices_Clone_string) (enter fi_slices_Clone_string [.one (c1)] []) = slices_Clone_string (k + 1) m c1 := by
  kernel_rfl
theorem slices_Clone_string_eq (k : Nat) (c1 : Cell) : evF G_slices_Clone_string (k + 2) fid_slices_Clone_string [.one (c1)] [] = slices_Clone_string (k + 1) (k + 1) c1 :=
  Eq.trans (by kernel_rfl) (slices_Clone_string_code k (k + 1) c1)
theorem run_slices_Clone_string_of {c1 : Cell} {r : Res} (k : Nat) (h : slices_Clone_string (k + 1) (k + 1) c1 = some r) : run_slices_Clone_string [.one (c1)] [] = some r := lim_of ((slices_Clone_string_eq k c1).trans h)
end Go.Ev
