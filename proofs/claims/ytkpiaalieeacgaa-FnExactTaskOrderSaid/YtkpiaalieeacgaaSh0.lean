/- What the evaluator says of the functions, each as a Lean function over cells. Printed by a program of this claim. Conditions: none. -/
import Derived.Test.YtkpiaalieeacgaaEvPr
import Derived.KernelRfl
namespace Go.Ev
open Go Go.Proofs
set_option maxRecDepth 100000
set_option linter.unusedVariables false
set_option linter.unusedSimpArgs false
noncomputable def pl_laws_szStringS : List (Nat × Run) := []
noncomputable def G_laws_szStringS : Ctx := ctx tyTab fiTab pl_laws_szStringS
noncomputable def run_laws_szStringS : Run := lim G_laws_szStringS fid_laws_szStringS
theorem ok_laws_szStringS : FnOk Try.prog OkT fid_laws_szStringS run_laws_szStringS := lim_ok (l := pl_laws_szStringS) Try_mix tyTab_ok fiTab_ok okT .nil fid_laws_szStringS
noncomputable def laws_szStringS_l0 (k m : Nat) : Nat → Cell → Int → Int → Option Res
  | 0, _, _, _ => none
  | n + 1, c4, i5, i6 =>
    (lenC c4).bind fun n7 =>
    cond (decide (i6 < (n7 : Int)))
    ((idxA 1 (c4) i6).bind fun c8 =>
    (deref [] (c8)).bind fun p9 =>
    (cS p9.1 p9.2).bind fun s10 =>
    cond (decide ((IntKind.i64.wrap (i5 - (s10.size : Int))) < 0))
    (some ([.one (Cell.int (-1))], []))
    (laws_szStringS_l0 k m n (c4) (IntKind.i64.wrap (i5 - (s10.size : Int))) (IntKind.i64.wrap (i6 + 1))))
    (some ([.one (Cell.int i5)], []))
noncomputable def laws_szStringS (k m : Nat) (c1 : Cell) (i2 : Int) : Option Res :=
  (lenC c1).bind fun n3 =>
  cond (decide ((IntKind.i64.wrap (i2 - (n3 : Int))) < 0))
  (some ([.one (Cell.int (-1))], []))
  (laws_szStringS_l0 k m m (c1) (IntKind.i64.wrap (i2 - (n3 : Int))) 0)
noncomputable abbrev laws_szStringS_l0_B (k m : Nat) : (Ex → Fr → Option Res) → Fr → Option Res := evC G_laws_szStringS fi_laws_szStringS (evF G_laws_szStringS (k + 1)) m (sub [1, 1, 1, 0, 1, 2, 3] fi_laws_szStringS.code) none
noncomputable abbrev laws_szStringS_l0_K (k m : Nat) : Ex → Fr → Option Res := blockK 0 (seqK (evC G_laws_szStringS fi_laws_szStringS (evF G_laws_szStringS (k + 1)) m (sub [1, 1, 1, 1] fi_laws_szStringS.code) none) (retK G_laws_szStringS fi_laws_szStringS))
theorem laws_szStringS_l0_eq (k m : Nat) : ∀ (n : Nat) (c4 : Cell) (i5 : Int) (i6 : Int), loopK (some [0, 1, 5]) (laws_szStringS_l0_B k m) (laws_szStringS_l0_K k m) n ⟨fT 28 0 [(0, .av (.one (c4))), (1, .av (.one (Cell.int i5))), (5, .av (.one (Cell.int i6)))], fX 28 0 [], []⟩ = laws_szStringS_l0 (k + 1) m n c4 i5 i6 := by
  intro n
  induction n with
  | zero => intros; rfl
  | succ n ih =>
    intros
    simp only [laws_szStringS_l0, ← ih]
    kernel_rfl
theorem laws_szStringS_code (k m : Nat) (c1 : Cell) (i2 : Int) : evC G_laws_szStringS fi_laws_szStringS (evF G_laws_szStringS (k + 1)) m fi_laws_szStringS.code none (retK G_laws_szStringS fi_laws_szStringS) (enter fi_laws_szStringS [.one (c1), .one (Cell.int i2)] []) = laws_szStringS (k + 1) m c1 i2 := by
  simp only [laws_szStringS, ← laws_szStringS_l0_eq k m]
  kernel_rfl
theorem laws_szStringS_eq (k : Nat) (c1 : Cell) (i2 : Int) : evF G_laws_szStringS (k + 2) fid_laws_szStringS [.one (c1), .one (Cell.int i2)] [] = laws_szStringS (k + 1) (k + 1) c1 i2 :=
  Eq.trans (by kernel_rfl) (laws_szStringS_code k (k + 1) c1 i2)
theorem run_laws_szStringS_of {c1 : Cell} {i2 : Int} {r : Res} (k : Nat) (h : laws_szStringS (k + 1) (k + 1) c1 i2 = some r) : run_laws_szStringS [.one (c1), .one (Cell.int i2)] [] = some r := lim_of ((laws_szStringS_eq k c1 i2).trans h)
noncomputable def pl_laws_szStringSS : List (Nat × Run) := [(fid_laws_szStringS, run_laws_szStringS)]
noncomputable def G_laws_szStringSS : Ctx := ctx tyTab fiTab pl_laws_szStringSS
noncomputable def run_laws_szStringSS : Run := lim G_laws_szStringSS fid_laws_szStringSS
theorem ok_laws_szStringSS : FnOk Try.prog OkT fid_laws_szStringSS run_laws_szStringSS := lim_ok (l := pl_laws_szStringSS) Try_mix tyTab_ok fiTab_ok okT (.cons ok_laws_szStringS .nil) fid_laws_szStringSS
noncomputable def laws_szStringSS_l0 (k m : Nat) : Nat → Cell → Int → Int → Option Res
  | 0, _, _, _ => none
  | n + 1, c4, i5, i6 =>
    (lenC c4).bind fun n7 =>
    cond (decide (i6 < (n7 : Int)))
    ((idxA 1 (c4) i6).bind fun c8 =>
    (deref [] (c8)).bind fun p9 =>
    (cC p9.1 p9.2).bind fun c10 =>
    (callS run_laws_szStringS [.one (c10), .one (Cell.int i5)] []).bind fun r11 =>
    cond (shapeOk rk_laws_szStringS r11)
    ((cI .i64 (cellsAt r11 0) 0).bind fun i12 =>
    cond (decide (i12 < 0))
    (some ([.one (Cell.int (-1))], []))
    (laws_szStringSS_l0 k m n (c4) i12 (IntKind.i64.wrap (i6 + 1))))
    none)
    (some ([.one (Cell.int i5)], []))
noncomputable def laws_szStringSS (k m : Nat) (c1 : Cell) (i2 : Int) : Option Res :=
  (lenC c1).bind fun n3 =>
  cond (decide ((IntKind.i64.wrap (i2 - (n3 : Int))) < 0))
  (some ([.one (Cell.int (-1))], []))
  (laws_szStringSS_l0 k m m (c1) (IntKind.i64.wrap (i2 - (n3 : Int))) 0)
noncomputable abbrev laws_szStringSS_l0_B (k m : Nat) : (Ex → Fr → Option Res) → Fr → Option Res := evC G_laws_szStringSS fi_laws_szStringSS (evF G_laws_szStringSS (k + 1)) m (sub [1, 1, 1, 0, 1, 2, 3] fi_laws_szStringSS.code) none
noncomputable abbrev laws_szStringSS_l0_K (k m : Nat) : Ex → Fr → Option Res := blockK 0 (seqK (evC G_laws_szStringSS fi_laws_szStringSS (evF G_laws_szStringSS (k + 1)) m (sub [1, 1, 1, 1] fi_laws_szStringSS.code) none) (retK G_laws_szStringSS fi_laws_szStringSS))
theorem laws_szStringSS_l0_eq (k m : Nat) : ∀ (n : Nat) (c4 : Cell) (i5 : Int) (i6 : Int), loopK (some [0, 1, 5]) (laws_szStringSS_l0_B k m) (laws_szStringSS_l0_K k m) n ⟨fT 27 0 [(0, .av (.one (c4))), (1, .av (.one (Cell.int i5))), (5, .av (.one (Cell.int i6)))], fX 27 0 [], []⟩ = laws_szStringSS_l0 (k + 1) m n c4 i5 i6 := by
  intro n
  induction n with
  | zero => intros; rfl
  | succ n ih =>
    intros
    simp only [laws_szStringSS_l0, ← ih]
    kernel_rfl
theorem laws_szStringSS_code (k m : Nat) (c1 : Cell) (i2 : Int) : evC G_laws_szStringSS fi_laws_szStringSS (evF G_laws_szStringSS (k + 1)) m fi_laws_szStringSS.code none (retK G_laws_szStringSS fi_laws_szStringSS) (enter fi_laws_szStringSS [.one (c1), .one (Cell.int i2)] []) = laws_szStringSS (k + 1) m c1 i2 := by
  simp only [laws_szStringSS, ← laws_szStringSS_l0_eq k m]
  kernel_rfl
theorem laws_szStringSS_eq (k : Nat) (c1 : Cell) (i2 : Int) : evF G_laws_szStringSS (k + 2) fid_laws_szStringSS [.one (c1), .one (Cell.int i2)] [] = laws_szStringSS (k + 1) (k + 1) c1 i2 :=
  Eq.trans (by kernel_rfl) (laws_szStringSS_code k (k + 1) c1 i2)
theorem run_laws_szStringSS_of {c1 : Cell} {i2 : Int} {r : Res} (k : Nat) (h : laws_szStringSS (k + 1) (k + 1) c1 i2 = some r) : run_laws_szStringSS [.one (c1), .one (Cell.int i2)] [] = some r := lim_of ((laws_szStringSS_eq k c1 i2).trans h)
noncomputable def pl_laws_szPlan : List (Nat × Run) := [(fid_laws_szStringS, run_laws_szStringS), (fid_laws_szStringSS, run_laws_szStringSS)]
noncomputable def G_laws_szPlan : Ctx := ctx tyTab fiTab pl_laws_szPlan
noncomputable def run_laws_szPlan : Run := lim G_laws_szPlan fid_laws_szPlan
theorem ok_laws_szPlan : FnOk Try.prog OkT fid_laws_szPlan run_laws_szPlan := lim_ok (l := pl_laws_szPlan) Try_mix tyTab_ok fiTab_ok okT (.cons ok_laws_szStringS (.cons ok_laws_szStringSS .nil)) fid_laws_szPlan
noncomputable def laws_szPlan (k m : Nat) (c1 : Cell) (c2 : Cell) (i3 : Int) : Option Res :=
  (callS run_laws_szStringS [.one (c1), .one (Cell.int i3)] []).bind fun r4 =>
  cond (shapeOk rk_laws_szStringS r4)
  ((cI .i64 (cellsAt r4 0) 0).bind fun i5 =>
  cond (decide (i5 < 0))
  (some ([.one (Cell.int (-1))], []))
  ((callS run_laws_szStringSS [.one (c2), .one (Cell.int i5)] []).bind fun r6 =>
  cond (shapeOk rk_laws_szStringSS r6)
  ((cI .i64 (cellsAt r6 0) 0).bind fun i7 =>
  cond (decide (i7 < 0))
  (some ([.one (Cell.int (-1))], []))
  (some ([.one (Cell.int i7)], [])))
  none))
  none
theorem laws_szPlan_code (k m : Nat) (c1 : Cell) (c2 : Cell) (i3 : Int) : evC G_laws_szPlan fi_laws_szPlan (evF G_laws_szPlan (k + 1)) m fi_laws_szPlan.code none (retK G_laws_szPlan fi_laws_szPlan) (enter fi_laws_szPlan [.agg [c1, c2], .one (Cell.int i3)] []) = laws_szPlan (k + 1) m c1 c2 i3 := by
  kernel_rfl
theorem laws_szPlan_eq (k : Nat) (c1 : Cell) (c2 : Cell) (i3 : Int) : evF G_laws_szPlan (k + 2) fid_laws_szPlan [.agg [c1, c2], .one (Cell.int i3)] [] = laws_szPlan (k + 1) (k + 1) c1 c2 i3 :=
  Eq.trans (by kernel_rfl) (laws_szPlan_code k (k + 1) c1 c2 i3)
theorem run_laws_szPlan_of {c1 : Cell} {c2 : Cell} {i3 : Int} {r : Res} (k : Nat) (h : laws_szPlan (k + 1) (k + 1) c1 c2 i3 = some r) : run_laws_szPlan [.agg [c1, c2], .one (Cell.int i3)] [] = some r := lim_of ((laws_szPlan_eq k c1 c2 i3).trans h)
noncomputable def pl_laws_toStringS : List (Nat × Run) := []
noncomputable def G_laws_toStringS : Ctx := ctx tyTab fiTab pl_laws_toStringS
noncomputable def run_laws_toStringS : Run := lim G_laws_toStringS fid_laws_toStringS
theorem ok_laws_toStringS : FnOk Try.prog OkT fid_laws_toStringS run_laws_toStringS := lim_ok (l := pl_laws_toStringS) Try_mix tyTab_ok fiTab_ok okT .nil fid_laws_toStringS
noncomputable def laws_toStringS_l0 (k m : Nat) : Nat → Cell → Cell → Int → List Entry → Option Res
  | 0, _, _, _, _ => none
  | n + 1, c3, c4, i5, H6 =>
    (lenC c3).bind fun n7 =>
    cond (decide (i5 < (n7 : Int)))
    ((idxA 1 (c3) i5).bind fun c8 =>
    (deref H6 (c8)).bind fun p9 =>
    (cS p9.1 p9.2).bind fun s10 =>
    (idxA 1 (c4) i5).bind fun c11 =>
    (hStore H6 (c11) [Cell.str s10]).bind fun h12 =>
    laws_toStringS_l0 k m n (c3) (c4) (IntKind.i64.wrap (i5 + 1)) h12)
    (some ([.one (c4)], H6))
noncomputable def laws_toStringS (k m : Nat) (c1 : Cell) : Option Res :=
  (lenC c1).bind fun n2 =>
  if 0 ≤ (n2 : Int) ∧ (n2 : Int) ≤ (n2 : Int) ∧ (n2 : Int) * 16 ≤ bound ∧ (n2 : Int) ≤ bound then
  (laws_toStringS_l0 k m m (c1) ((.vs 0 1 0 (n2 : Int).toNat 0)) 0 [Entry.mk 1 (mkRows (n2 : Int).toNat [Cell.str (bs [])]) 0 false]) else none
noncomputable abbrev laws_toStringS_l0_B (k m : Nat) : (Ex → Fr → Option Res) → Fr → Option Res := evC G_laws_toStringS fi_laws_toStringS (evF G_laws_toStringS (k + 1)) m (sub [1, 1, 0, 1, 2, 3] fi_laws_toStringS.code) none
noncomputable abbrev laws_toStringS_l0_K (k m : Nat) : Ex → Fr → Option Res := blockK 0 (seqK (evC G_laws_toStringS fi_laws_toStringS (evF G_laws_toStringS (k + 1)) m (sub [1, 1, 1] fi_laws_toStringS.code) none) (retK G_laws_toStringS fi_laws_toStringS))
theorem laws_toStringS_l0_eq (k m : Nat) : ∀ (n : Nat) (c3 : Cell) (c4 : Cell) (i5 : Int) (H6 : List Entry), loopK (some [0, 3, 4]) (laws_toStringS_l0_B k m) (laws_toStringS_l0_K k m) n ⟨fT 22 0 [(0, .av (.one (c3))), (3, .av (.one (c4))), (4, .av (.one (Cell.int i5)))], fX 22 0 [], H6⟩ = laws_toStringS_l0 (k + 1) m n c3 c4 i5 H6 := by
  intro n
  induction n with
  | zero => intros; rfl
  | succ n ih =>
    intros
    simp only [laws_toStringS_l0, ← ih]
    kernel_rfl
theorem laws_toStringS_code (k m : Nat) (c1 : Cell) : evC G_laws_toStringS fi_laws_toStringS (evF G_laws_toStringS (k + 1)) m fi_laws_toStringS.code none (retK G_laws_toStringS fi_laws_toStringS) (enter fi_laws_toStringS [.one (c1)] []) = laws_toStringS (k + 1) m c1 := by
  simp only [laws_toStringS, ← laws_toStringS_l0_eq k m]
  kernel_rfl
theorem laws_toStringS_eq (k : Nat) (c1 : Cell) : evF G_laws_toStringS (k + 2) fid_laws_toStringS [.one (c1)] [] = laws_toStringS (k + 1) (k + 1) c1 :=
  Eq.trans (by kernel_rfl) (laws_toStringS_code k (k + 1) c1)
theorem run_laws_toStringS_of {c1 : Cell} {r : Res} (k : Nat) (h : laws_toStringS (k + 1) (k + 1) c1 = some r) : run_laws_toStringS [.one (c1)] [] = some r := lim_of ((laws_toStringS_eq k c1).trans h)
noncomputable def pl_laws_toStringSS : List (Nat × Run) := [(fid_laws_toStringS, run_laws_toStringS)]
noncomputable def G_laws_toStringSS : Ctx := ctx tyTab fiTab pl_laws_toStringSS
noncomputable def run_laws_toStringSS : Run := lim G_laws_toStringSS fid_laws_toStringSS
theorem ok_laws_toStringSS : FnOk Try.prog OkT fid_laws_toStringSS run_laws_toStringSS := lim_ok (l := pl_laws_toStringSS) Try_mix tyTab_ok fiTab_ok okT (.cons ok_laws_toStringS .nil) fid_laws_toStringSS
noncomputable def laws_toStringSS_l0 (k m : Nat) : Nat → Cell → Cell → Int → List Entry → Option Res
  | 0, _, _, _, _ => none
  | n + 1, c3, c4, i5, H6 =>
    (lenC c3).bind fun n7 =>
    cond (decide (i5 < (n7 : Int)))
    ((idxA 1 (c3) i5).bind fun c8 =>
    (deref H6 (c8)).bind fun p9 =>
    (cC p9.1 p9.2).bind fun c10 =>
    (callF run_laws_toStringS [.one (c10)] H6).bind fun r11 =>
    cond (shapeOk rk_laws_toStringS r11.1)
    ((cC (cellsAt r11.1 0) 0).bind fun c12 =>
    (idxA 1 (c4) i5).bind fun c13 =>
    (hStore r11.2 (c13) [c12]).bind fun h14 =>
    laws_toStringSS_l0 k m n (c3) (c4) (IntKind.i64.wrap (i5 + 1)) h14)
    none)
    (some ([.one (c4)], H6))
noncomputable def laws_toStringSS (k m : Nat) (c1 : Cell) : Option Res :=
  (lenC c1).bind fun n2 =>
  if 0 ≤ (n2 : Int) ∧ (n2 : Int) ≤ (n2 : Int) ∧ (n2 : Int) * 24 ≤ bound ∧ (n2 : Int) ≤ bound then
  (laws_toStringSS_l0 k m m (c1) ((.vs 0 1 0 (n2 : Int).toNat 0)) 0 [Entry.mk 1 (mkRows (n2 : Int).toNat [.lst true 1 []]) 0 false]) else none
noncomputable abbrev laws_toStringSS_l0_B (k m : Nat) : (Ex → Fr → Option Res) → Fr → Option Res := evC G_laws_toStringSS fi_laws_toStringSS (evF G_laws_toStringSS (k + 1)) m (sub [1, 1, 0, 1, 2, 3] fi_laws_toStringSS.code) none
noncomputable abbrev laws_toStringSS_l0_K (k m : Nat) : Ex → Fr → Option Res := blockK 0 (seqK (evC G_laws_toStringSS fi_laws_toStringSS (evF G_laws_toStringSS (k + 1)) m (sub [1, 1, 1] fi_laws_toStringSS.code) none) (retK G_laws_toStringSS fi_laws_toStringSS))
theorem laws_toStringSS_l0_eq (k m : Nat) : ∀ (n : Nat) (c3 : Cell) (c4 : Cell) (i5 : Int) (H6 : List Entry), loopK (some [0, 3, 4]) (laws_toStringSS_l0_B k m) (laws_toStringSS_l0_K k m) n ⟨fT 23 0 [(0, .av (.one (c3))), (3, .av (.one (c4))), (4, .av (.one (Cell.int i5)))], fX 23 0 [], H6⟩ = laws_toStringSS_l0 (k + 1) m n c3 c4 i5 H6 := by
  intro n
  induction n with
  | zero => intros; rfl
  | succ n ih =>
    intros
    simp only [laws_toStringSS_l0, ← ih]
    kernel_rfl
theorem laws_toStringSS_code (k m : Nat) (c1 : Cell) : evC G_laws_toStringSS fi_laws_toStringSS (evF G_laws_toStringSS (k + 1)) m fi_laws_toStringSS.code none (retK G_laws_toStringSS fi_laws_toStringSS) (enter fi_laws_toStringSS [.one (c1)] []) = laws_toStringSS (k + 1) m c1 := by
  simp only [laws_toStringSS, ← laws_toStringSS_l0_eq k m]
  kernel_rfl
theorem laws_toStringSS_eq (k : Nat) (c1 : Cell) : evF G_laws_toStringSS (k + 2) fid_laws_toStringSS [.one (c1)] [] = laws_toStringSS (k + 1) (k + 1) c1 :=
  Eq.trans (by kernel_rfl) (laws_toStringSS_code k (k + 1) c1)
theorem run_laws_toStringSS_of {c1 : Cell} {r : Res} (k : Nat) (h : laws_toStringSS (k + 1) (k + 1) c1 = some r) : run_laws_toStringSS [.one (c1)] [] = some r := lim_of ((laws_toStringSS_eq k c1).trans h)
noncomputable def pl_laws_toPlan : List (Nat × Run) := [(fid_laws_toStringS, run_laws_toStringS), (fid_laws_toStringSS, run_laws_toStringSS)]
noncomputable def G_laws_toPlan : Ctx := ctx tyTab fiTab pl_laws_toPlan
noncomputable def run_laws_toPlan : Run := lim G_laws_toPlan fid_laws_toPlan
theorem ok_laws_toPlan : FnOk Try.prog OkT fid_laws_toPlan run_laws_toPlan := lim_ok (l := pl_laws_toPlan) Try_mix tyTab_ok fiTab_ok okT (.cons ok_laws_toStringS (.cons ok_laws_toStringSS .nil)) fid_laws_toPlan
noncomputable def laws_toPlan (k m : Nat) (c1 : Cell) (c2 : Cell) : Option Res :=
  (callF run_laws_toStringS [.one (c1)] []).bind fun r3 =>
  cond (shapeOk rk_laws_toStringS r3.1)
  ((cC (cellsAt r3.1 0) 0).bind fun c4 =>
  (callF run_laws_toStringSS [.one (c2)] r3.2).bind fun r5 =>
  cond (shapeOk rk_laws_toStringSS r5.1)
  ((cC (cellsAt r5.1 0) 0).bind fun c6 =>
  some ([.agg [c4, c6]], r5.2))
  none)
  none
theorem laws_toPlan_code (k m : Nat) (c1 : Cell) (c2 : Cell) : evC G_laws_toPlan fi_laws_toPlan (evF G_laws_toPlan (k + 1)) m fi_laws_toPlan.code none (retK G_laws_toPlan fi_laws_toPlan) (enter fi_laws_toPlan [.agg [c1, c2]] []) = laws_toPlan (k + 1) m c1 c2 := by
  kernel_rfl
theorem laws_toPlan_eq (k : Nat) (c1 : Cell) (c2 : Cell) : evF G_laws_toPlan (k + 2) fid_laws_toPlan [.agg [c1, c2]] [] = laws_toPlan (k + 1) (k + 1) c1 c2 :=
  Eq.trans (by kernel_rfl) (laws_toPlan_code k (k + 1) c1 c2)
theorem run_laws_toPlan_of {c1 : Cell} {c2 : Cell} {r : Res} (k : Nat) (h : laws_toPlan (k + 1) (k + 1) c1 c2 = some r) : run_laws_toPlan [.agg [c1, c2]] [] = some r := lim_of ((laws_toPlan_eq k c1 c2).trans h)
noncomputable def pl_laws_eqStringS : List (Nat × Run) := []
noncomputable def G_laws_eqStringS : Ctx := ctx tyTab fiTab pl_laws_eqStringS
noncomputable def run_laws_eqStringS : Run := lim G_laws_eqStringS fid_laws_eqStringS
theorem ok_laws_eqStringS : FnOk Try.prog OkT fid_laws_eqStringS run_laws_eqStringS := lim_ok (l := pl_laws_eqStringS) Try_mix tyTab_ok fiTab_ok okT .nil fid_laws_eqStringS
noncomputable def laws_eqStringS_l0 (k m : Nat) : Nat → Cell → Cell → Int → Option Res
  | 0, _, _, _ => none
  | n + 1, c5, c6, i7 =>
    (lenC c5).bind fun n8 =>
    cond (decide (i7 < (n8 : Int)))
    ((idxA 1 (c5) i7).bind fun c9 =>
    (deref [] (c9)).bind fun p10 =>
    (cS p10.1 p10.2).bind fun s11 =>
    (idxA 1 (c6) i7).bind fun c12 =>
    (deref [] (c12)).bind fun p13 =>
    (cS p13.1 p13.2).bind fun s14 =>
    cond (!(s11.toList == s14.toList))
    (some ([.one (Cell.bool false)], []))
    (laws_eqStringS_l0 k m n (c5) (c6) (IntKind.i64.wrap (i7 + 1))))
    (some ([.one (Cell.bool true)], []))
noncomputable def laws_eqStringS (k m : Nat) (c1 : Cell) (c2 : Cell) : Option Res :=
  (lenC c1).bind fun n3 =>
  (lenC c2).bind fun n4 =>
  cond ((n3 : Int) != (n4 : Int))
  (some ([.one (Cell.bool false)], []))
  (laws_eqStringS_l0 k m m (c1) (c2) 0)
noncomputable abbrev laws_eqStringS_l0_B (k m : Nat) : (Ex → Fr → Option Res) → Fr → Option Res := evC G_laws_eqStringS fi_laws_eqStringS (evF G_laws_eqStringS (k + 1)) m (sub [1, 1, 0, 1, 2, 3] fi_laws_eqStringS.code) none
noncomputable abbrev laws_eqStringS_l0_K (k m : Nat) : Ex → Fr → Option Res := blockK 0 (seqK (evC G_laws_eqStringS fi_laws_eqStringS (evF G_laws_eqStringS (k + 1)) m (sub [1, 1, 1] fi_laws_eqStringS.code) none) (retK G_laws_eqStringS fi_laws_eqStringS))
theorem laws_eqStringS_l0_eq (k m : Nat) : ∀ (n : Nat) (c5 : Cell) (c6 : Cell) (i7 : Int), loopK (some [0, 1, 5]) (laws_eqStringS_l0_B k m) (laws_eqStringS_l0_K k m) n ⟨fT 26 0 [(0, .av (.one (c5))), (1, .av (.one (c6))), (5, .av (.one (Cell.int i7)))], fX 26 0 [], []⟩ = laws_eqStringS_l0 (k + 1) m n c5 c6 i7 := by
  intro n
  induction n with
  | zero => intros; rfl
  | succ n ih =>
    intros
    simp only [laws_eqStringS_l0, ← ih]
    kernel_rfl
theorem laws_eqStringS_code (k m : Nat) (c1 : Cell) (c2 : Cell) : evC G_laws_eqStringS fi_laws_eqStringS (evF G_laws_eqStringS (k + 1)) m fi_laws_eqStringS.code none (retK G_laws_eqStringS fi_laws_eqStringS) (enter fi_laws_eqStringS [.one (c1), .one (c2)] []) = laws_eqStringS (k + 1) m c1 c2 := by
  simp only [laws_eqStringS, ← laws_eqStringS_l0_eq k m]
  kernel_rfl
theorem laws_eqStringS_eq (k : Nat) (c1 : Cell) (c2 : Cell) : evF G_laws_eqStringS (k + 2) fid_laws_eqStringS [.one (c1), .one (c2)] [] = laws_eqStringS (k + 1) (k + 1) c1 c2 :=
  Eq.trans (by kernel_rfl) (laws_eqStringS_code k (k + 1) c1 c2)
theorem run_laws_eqStringS_of {c1 : Cell} {c2 : Cell} {r : Res} (k : Nat) (h : laws_eqStringS (k + 1) (k + 1) c1 c2 = some r) : run_laws_eqStringS [.one (c1), .one (c2)] [] = some r := lim_of ((laws_eqStringS_eq k c1 c2).trans h)
noncomputable def pl_laws_eqStringSS : List (Nat × Run) := [(fid_laws_eqStringS, run_laws_eqStringS)]
noncomputable def G_laws_eqStringSS : Ctx := ctx tyTab fiTab pl_laws_eqStringSS
noncomputable def run_laws_eqStringSS : Run := lim G_laws_eqStringSS fid_laws_eqStringSS
theorem ok_laws_eqStringSS : FnOk Try.prog OkT fid_laws_eqStringSS run_laws_eqStringSS := lim_ok (l := pl_laws_eqStringSS) Try_mix tyTab_ok fiTab_ok okT (.cons ok_laws_eqStringS .nil) fid_laws_eqStringSS
noncomputable def laws_eqStringSS_l0 (k m : Nat) : Nat → Cell → Cell → Int → Option Res
  | 0, _, _, _ => none
  | n + 1, c5, c6, i7 =>
    (lenC c5).bind fun n8 =>
    cond (decide (i7 < (n8 : Int)))
    ((idxA 1 (c5) i7).bind fun c9 =>
    (deref [] (c9)).bind fun p10 =>
    (cC p10.1 p10.2).bind fun c11 =>
    (idxA 1 (c6) i7).bind fun c12 =>
    (deref [] (c12)).bind fun p13 =>
    (cC p13.1 p13.2).bind fun c14 =>
    (callS run_laws_eqStringS [.one (c11), .one (c14)] []).bind fun r15 =>
    cond (shapeOk rk_laws_eqStringS r15)
    ((cB (cellsAt r15 0) 0).bind fun b16 =>
    cond (!b16)
    (some ([.one (Cell.bool false)], []))
    (laws_eqStringSS_l0 k m n (c5) (c6) (IntKind.i64.wrap (i7 + 1))))
    none)
    (some ([.one (Cell.bool true)], []))
noncomputable def laws_eqStringSS (k m : Nat) (c1 : Cell) (c2 : Cell) : Option Res :=
  (lenC c1).bind fun n3 =>
  (lenC c2).bind fun n4 =>
  cond ((n3 : Int) != (n4 : Int))
  (some ([.one (Cell.bool false)], []))
  (laws_eqStringSS_l0 k m m (c1) (c2) 0)
noncomputable abbrev laws_eqStringSS_l0_B (k m : Nat) : (Ex → Fr → Option Res) → Fr → Option Res := evC G_laws_eqStringSS fi_laws_eqStringSS (evF G_laws_eqStringSS (k + 1)) m (sub [1, 1, 0, 1, 2, 3] fi_laws_eqStringSS.code) none
noncomputable abbrev laws_eqStringSS_l0_K (k m : Nat) : Ex → Fr → Option Res := blockK 0 (seqK (evC G_laws_eqStringSS fi_laws_eqStringSS (evF G_laws_eqStringSS (k + 1)) m (sub [1, 1, 1] fi_laws_eqStringSS.code) none) (retK G_laws_eqStringSS fi_laws_eqStringSS))
theorem laws_eqStringSS_l0_eq (k m : Nat) : ∀ (n : Nat) (c5 : Cell) (c6 : Cell) (i7 : Int), loopK (some [0, 1, 5]) (laws_eqStringSS_l0_B k m) (laws_eqStringSS_l0_K k m) n ⟨fT 27 0 [(0, .av (.one (c5))), (1, .av (.one (c6))), (5, .av (.one (Cell.int i7)))], fX 27 0 [], []⟩ = laws_eqStringSS_l0 (k + 1) m n c5 c6 i7 := by
  intro n
  induction n with
  | zero => intros; rfl
  | succ n ih =>
    intros
    simp only [laws_eqStringSS_l0, ← ih]
    kernel_rfl
theorem laws_eqStringSS_code (k m : Nat) (c1 : Cell) (c2 : Cell) : evC G_laws_eqStringSS fi_laws_eqStringSS (evF G_laws_eqStringSS (k + 1)) m fi_laws_eqStringSS.code none (retK G_laws_eqStringSS fi_laws_eqStringSS) (enter fi_laws_eqStringSS [.one (c1), .one (c2)] []) = laws_eqStringSS (k + 1) m c1 c2 := by
  simp only [laws_eqStringSS, ← laws_eqStringSS_l0_eq k m]
  kernel_rfl
theorem laws_eqStringSS_eq (k : Nat) (c1 : Cell) (c2 : Cell) : evF G_laws_eqStringSS (k + 2) fid_laws_eqStringSS [.one (c1), .one (c2)] [] = laws_eqStringSS (k + 1) (k + 1) c1 c2 :=
  Eq.trans (by kernel_rfl) (laws_eqStringSS_code k (k + 1) c1 c2)
theorem run_laws_eqStringSS_of {c1 : Cell} {c2 : Cell} {r : Res} (k : Nat) (h : laws_eqStringSS (k + 1) (k + 1) c1 c2 = some r) : run_laws_eqStringSS [.one (c1), .one (c2)] [] = some r := lim_of ((laws_eqStringSS_eq k c1 c2).trans h)
noncomputable def pl_laws_eqPlan : List (Nat × Run) := [(fid_laws_eqStringS, run_laws_eqStringS), (fid_laws_eqStringSS, run_laws_eqStringSS)]
noncomputable def G_laws_eqPlan : Ctx := ctx tyTab fiTab pl_laws_eqPlan
noncomputable def run_laws_eqPlan : Run := lim G_laws_eqPlan fid_laws_eqPlan
theorem ok_laws_eqPlan : FnOk Try.prog OkT fid_laws_eqPlan run_laws_eqPlan := lim_ok (l := pl_laws_eqPlan) Try_mix tyTab_ok fiTab_ok okT (.cons ok_laws_eqStringS (.cons ok_laws_eqStringSS .nil)) fid_laws_eqPlan
noncomputable def laws_eqPlan (k m : Nat) (c1 : Cell) (c2 : Cell) (c3 : Cell) (c4 : Cell) : Option Res :=
  (callS run_laws_eqStringS [.one (c1), .one (c3)] []).bind fun r5 =>
  cond (shapeOk rk_laws_eqStringS r5)
  ((cB (cellsAt r5 0) 0).bind fun b6 =>
  cond (!b6)
  (some ([.one (Cell.bool false)], []))
  ((callS run_laws_eqStringSS [.one (c2), .one (c4)] []).bind fun r7 =>
  cond (shapeOk rk_laws_eqStringSS r7)
  ((cB (cellsAt r7 0) 0).bind fun b8 =>
  cond (!b8)
  (some ([.one (Cell.bool false)], []))
  (some ([.one (Cell.bool true)], [])))
  none))
  none
theorem laws_eqPlan_code (k m : Nat) (c1 : Cell) (c2 : Cell) (c3 : Cell) (c4 : Cell) : evC G_laws_eqPlan fi_laws_eqPlan (evF G_laws_eqPlan (k + 1)) m fi_laws_eqPlan.code none (retK G_laws_eqPlan fi_laws_eqPlan) (enter fi_laws_eqPlan [.agg [c1, c2], .agg [c3, c4]] []) = laws_eqPlan (k + 1) m c1 c2 c3 c4 := by
  kernel_rfl
theorem laws_eqPlan_eq (k : Nat) (c1 : Cell) (c2 : Cell) (c3 : Cell) (c4 : Cell) : evF G_laws_eqPlan (k + 2) fid_laws_eqPlan [.agg [c1, c2], .agg [c3, c4]] [] = laws_eqPlan (k + 1) (k + 1) c1 c2 c3 c4 :=
  Eq.trans (by kernel_rfl) (laws_eqPlan_code k (k + 1) c1 c2 c3 c4)
theorem run_laws_eqPlan_of {c1 : Cell} {c2 : Cell} {c3 : Cell} {c4 : Cell} {r : Res} (k : Nat) (h : laws_eqPlan (k + 1) (k + 1) c1 c2 c3 c4 = some r) : run_laws_eqPlan [.agg [c1, c2], .agg [c3, c4]] [] = some r := lim_of ((laws_eqPlan_eq k c1 c2 c3 c4).trans h)
noncomputable def pl_laws_markText : List (Nat × Run) := []
noncomputable def G_laws_markText : Ctx := ctx tyTab fiTab pl_laws_markText
noncomputable def run_laws_markText : Run := lim G_laws_markText fid_laws_markText
theorem ok_laws_markText : FnOk Try.prog OkT fid_laws_markText run_laws_markText := lim_ok (l := pl_laws_markText) Try_mix tyTab_ok fiTab_ok okT .nil fid_laws_markText
noncomputable def laws_markText_l0 (k m : Nat) : Nat → Int → ByteArray → Option Res
  | 0, _, _ => none
  | n + 1, i2, s3 =>
    cond (decide (i2 > 0))
    ((bytesOf [] (.lst true 1 [[.sc (.int .u8 (IntKind.u8.wrap (IntKind.i64.wrap (48 + (i2.tmod 10)))))]])).bind fun s4 =>
    (catS s4 s3).bind fun s5 =>
    laws_markText_l0 k m n (IntKind.i64.wrap (i2.tdiv 10)) s5)
    ((catS (bs [109]) s3).bind fun s6 =>
    some ([.one (Cell.str s6)], []))
noncomputable def laws_markText (k m : Nat) (i1 : Int) : Option Res :=
  cond (decide (i1 ≤ 0))
  (some ([.one (Cell.str (bs [109, 48]))], []))
  (laws_markText_l0 k m m i1 (bs []))
noncomputable abbrev laws_markText_l0_B (k m : Nat) : (Ex → Fr → Option Res) → Fr → Option Res := evC G_laws_markText fi_laws_markText (evF G_laws_markText (k + 1)) m (sub [1, 1, 1, 0, 2, 3] fi_laws_markText.code) none
noncomputable abbrev laws_markText_l0_K (k m : Nat) : Ex → Fr → Option Res := blockK 0 (seqK (evC G_laws_markText fi_laws_markText (evF G_laws_markText (k + 1)) m (sub [1, 1, 1, 1] fi_laws_markText.code) none) (retK G_laws_markText fi_laws_markText))
theorem laws_markText_l0_eq (k m : Nat) : ∀ (n : Nat) (i2 : Int) (s3 : ByteArray), loopK (some [0, 3]) (laws_markText_l0_B k m) (laws_markText_l0_K k m) n ⟨fT 20 0 [(0, .av (.one (Cell.int i2))), (3, .av (.one (Cell.str s3)))], fX 20 0 [], []⟩ = laws_markText_l0 (k + 1) m n i2 s3 := by
  intro n
  induction n with
  | zero => intros; rfl
  | succ n ih =>
    intros
    simp only [laws_markText_l0, ← ih]
    kernel_rfl
theorem laws_markText_code (k m : Nat) (i1 : Int) : evC G_laws_markText fi_laws_markText (evF G_laws_markText (k + 1)) m fi_laws_markText.code none (retK G_laws_markText fi_laws_markText) (enter fi_laws_markText [.one (Cell.int i1)] []) = laws_markText (k + 1) m i1 := by
  simp only [laws_markText, ← laws_markText_l0_eq k m]
  kernel_rfl
theorem laws_markText_eq (k : Nat) (i1 : Int) : evF G_laws_markText (k + 2) fid_laws_markText [.one (Cell.int i1)] [] = laws_markText (k + 1) (k + 1) i1 :=
  Eq.trans (by kernel_rfl) (laws_markText_code k (k + 1) i1)
theorem run_laws_markText_of {i1 : Int} {r : Res} (k : Nat) (h : laws_markText (k + 1) (k + 1) i1 = some r) : run_laws_markText [.one (Cell.int i1)] [] = some r := lim_of ((laws_markText_eq k i1).trans h)
noncomputable def pl_laws_markStringS : List (Nat × Run) := [(fid_laws_markText, run_laws_markText)]
noncomputable def G_laws_markStringS : Ctx := ctx tyTab fiTab pl_laws_markStringS
noncomputable def run_laws_markStringS : Run := lim G_laws_markStringS fid_laws_markStringS
theorem ok_laws_markStringS : FnOk Try.prog OkT fid_laws_markStringS run_laws_markStringS := lim_ok (l := pl_laws_markStringS) Try_mix tyTab_ok fiTab_ok okT (.cons ok_laws_markText .nil) fid_laws_markStringS
noncomputable def laws_markStringS_l0 (k m : Nat) : Nat → Cell → Int → Int → List Entry → Option Res
  | 0, _, _, _, _ => none
  | n + 1, c3, i4, i5, H6 =>
    (lenC c3).bind fun n7 =>
    cond (decide (i5 < (n7 : Int)))
    ((callS run_laws_markText [.one (Cell.int i4)] H6).bind fun r8 =>
    cond (shapeOk rk_laws_markText r8)
    ((cS (cellsAt r8 0) 0).bind fun s9 =>
    (idxA 1 (c3) i5).bind fun c10 =>
    (hStore H6 (c10) [Cell.str s9]).bind fun h11 =>
    laws_markStringS_l0 k m n (c3) (IntKind.i64.wrap (i4 + 1)) (IntKind.i64.wrap (i5 + 1)) h11)
    none)
    (some ([.one (Cell.int i4)], H6))
noncomputable def laws_markStringS (k m : Nat) (c1 : Cell) (i2 : Int) (H : List Entry) : Option Res :=
  laws_markStringS_l0 k m m (c1) i2 0 H
noncomputable abbrev laws_markStringS_l0_B (k m : Nat) : (Ex → Fr → Option Res) → Fr → Option Res := evC G_laws_markStringS fi_laws_markStringS (evF G_laws_markStringS (k + 1)) m (sub [1, 0, 1, 2, 3] fi_laws_markStringS.code) none
noncomputable abbrev laws_markStringS_l0_K (k m : Nat) : Ex → Fr → Option Res := blockK 0 (seqK (evC G_laws_markStringS fi_laws_markStringS (evF G_laws_markStringS (k + 1)) m (sub [1, 1] fi_laws_markStringS.code) none) (retK G_laws_markStringS fi_laws_markStringS))
theorem laws_markStringS_l0_eq (k m : Nat) : ∀ (n : Nat) (c3 : Cell) (i4 : Int) (i5 : Int) (H6 : List Entry), loopK (some [0, 1, 5]) (laws_markStringS_l0_B k m) (laws_markStringS_l0_K k m) n ⟨fT 20 0 [(0, .av (.one (c3))), (1, .av (.one (Cell.int i4))), (5, .av (.one (Cell.int i5)))], fX 20 0 [], H6⟩ = laws_markStringS_l0 (k + 1) m n c3 i4 i5 H6 := by
  intro n
  induction n with
  | zero => intros; rfl
  | succ n ih =>
    intros
    simp only [laws_markStringS_l0, ← ih]
    kernel_rfl
theorem laws_markStringS_code (k m : Nat) (c1 : Cell) (i2 : Int) (H : List Entry) : evC G_laws_markStringS fi_laws_markStringS (evF G_laws_markStringS (k + 1)) m fi_laws_markStringS.code none (retK G_laws_markStringS fi_laws_markStringS) (enter fi_laws_markStringS [.one (c1), .one (Cell.int i2)] H) = laws_markStringS (k + 1) m c1 i2 H := by
  simp only [laws_markStringS, ← laws_markStringS_l0_eq k m]
  kernel_rfl
theorem laws_markStringS_eq (k : Nat) (c1 : Cell) (i2 : Int) (H : List Entry) : evF G_laws_markStringS (k + 2) fid_laws_markStringS [.one (c1), .one (Cell.int i2)] H = laws_markStringS (k + 1) (k + 1) c1 i2 H :=
  Eq.trans (by kernel_rfl) (laws_markStringS_code k (k + 1) c1 i2 H)
theorem run_laws_markStringS_of {c1 : Cell} {i2 : Int} {H : List Entry} {r : Res} (k : Nat) (h : laws_markStringS (k + 1) (k + 1) c1 i2 H = some r) : run_laws_markStringS [.one (c1), .one (Cell.int i2)] H = some r := lim_of ((laws_markStringS_eq k c1 i2 H).trans h)
noncomputable def pl_laws_markStringSS : List (Nat × Run) := [(fid_laws_markStringS, run_laws_markStringS)]
noncomputable def G_laws_markStringSS : Ctx := ctx tyTab fiTab pl_laws_markStringSS
noncomputable def run_laws_markStringSS : Run := lim G_laws_markStringSS fid_laws_markStringSS
theorem ok_laws_markStringSS : FnOk Try.prog OkT fid_laws_markStringSS run_laws_markStringSS := lim_ok (l := pl_laws_markStringSS) Try_mix tyTab_ok fiTab_ok okT (.cons ok_laws_markStringS .nil) fid_laws_markStringSS
noncomputable def laws_markStringSS_l0 (k m : Nat) : Nat → Cell → Int → Int → List Entry → Option Res
  | 0, _, _, _, _ => none
  | n + 1, c3, i4, i5, H6 =>
    (lenC c3).bind fun n7 =>
    cond (decide (i5 < (n7 : Int)))
    ((idxA 1 (c3) i5).bind fun c8 =>
    (deref H6 (c8)).bind fun p9 =>
    (cC p9.1 p9.2).bind fun c10 =>
    (run_laws_markStringS [.one (c10), .one (Cell.int i4)] H6).bind fun r11 =>
    cond (shapeOk rk_laws_markStringS r11.1)
    ((cI .i64 (cellsAt r11.1 0) 0).bind fun i12 =>
    laws_markStringSS_l0 k m n (c3) i12 (IntKind.i64.wrap (i5 + 1)) r11.2)
    none)
    (some ([.one (Cell.int i4)], H6))
noncomputable def laws_markStringSS (k m : Nat) (c1 : Cell) (i2 : Int) (H : List Entry) : Option Res :=
  laws_markStringSS_l0 k m m (c1) i2 0 H
noncomputable abbrev laws_markStringSS_l0_B (k m : Nat) : (Ex → Fr → Option Res) → Fr → Option Res := evC G_laws_markStringSS fi_laws_markStringSS (evF G_laws_markStringSS (k + 1)) m (sub [1, 0, 1, 2, 3] fi_laws_markStringSS.code) none
noncomputable abbrev laws_markStringSS_l0_K (k m : Nat) : Ex → Fr → Option Res := blockK 0 (seqK (evC G_laws_markStringSS fi_laws_markStringSS (evF G_laws_markStringSS (k + 1)) m (sub [1, 1] fi_laws_markStringSS.code) none) (retK G_laws_markStringSS fi_laws_markStringSS))
theorem laws_markStringSS_l0_eq (k m : Nat) : ∀ (n : Nat) (c3 : Cell) (i4 : Int) (i5 : Int) (H6 : List Entry), loopK (some [0, 1, 5]) (laws_markStringSS_l0_B k m) (laws_markStringSS_l0_K k m) n ⟨fT 19 0 [(0, .av (.one (c3))), (1, .av (.one (Cell.int i4))), (5, .av (.one (Cell.int i5)))], fX 19 0 [], H6⟩ = laws_markStringSS_l0 (k + 1) m n c3 i4 i5 H6 := by
  intro n
  induction n with
  | zero => intros; rfl
  | succ n ih =>
    intros
    simp only [laws_markStringSS_l0, ← ih]
    kernel_rfl
theorem laws_markStringSS_code (k m : Nat) (c1 : Cell) (i2 : Int) (H : List Entry) : evC G_laws_markStringSS fi_laws_markStringSS (evF G_laws_markStringSS (k + 1)) m fi_laws_markStringSS.code none (retK G_laws_markStringSS fi_laws_markStringSS) (enter fi_laws_markStringSS [.one (c1), .one (Cell.int i2)] H) = laws_markStringSS (k + 1) m c1 i2 H := by
  simp only [laws_markStringSS, ← laws_markStringSS_l0_eq k m]
  kernel_rfl
theorem laws_markStringSS_eq (k : Nat) (c1 : Cell) (i2 : Int) (H : List Entry) : evF G_laws_markStringSS (k + 2) fid_laws_markStringSS [.one (c1), .one (Cell.int i2)] H = laws_markStringSS (k + 1) (k + 1) c1 i2 H :=
  Eq.trans (by kernel_rfl) (laws_markStringSS_code k (k + 1) c1 i2 H)
theorem run_laws_markStringSS_of {c1 : Cell} {i2 : Int} {H : List Entry} {r : Res} (k : Nat) (h : laws_markStringSS (k + 1) (k + 1) c1 i2 H = some r) : run_laws_markStringSS [.one (c1), .one (Cell.int i2)] H = some r := lim_of ((laws_markStringSS_eq k c1 i2 H).trans h)
noncomputable def pl_laws_markPlan : List (Nat × Run) := [(fid_laws_markStringS, run_laws_markStringS), (fid_laws_markStringSS, run_laws_markStringSS)]
noncomputable def G_laws_markPlan : Ctx := ctx tyTab fiTab pl_laws_markPlan
noncomputable def run_laws_markPlan : Run := lim G_laws_markPlan fid_laws_markPlan
theorem ok_laws_markPlan : FnOk Try.prog OkT fid_laws_markPlan run_laws_markPlan := lim_ok (l := pl_laws_markPlan) Try_mix tyTab_ok fiTab_ok okT (.cons ok_laws_markStringS (.cons ok_laws_markStringSS .nil)) fid_laws_markPlan
noncomputable def laws_markPlan (k m : Nat) (c1 : Cell) (c2 : Cell) (i3 : Int) (H : List Entry) : Option Res :=
  (run_laws_markStringS [.one (c1), .one (Cell.int i3)] H).bind fun r4 =>
  cond (shapeOk rk_laws_markStringS r4.1)
  ((cI .i64 (cellsAt r4.1 0) 0).bind fun i5 =>
  (run_laws_markStringSS [.one (c2), .one (Cell.int i5)] r4.2).bind fun r6 =>
  cond (shapeOk rk_laws_markStringSS r6.1)
  ((cI .i64 (cellsAt r6.1 0) 0).bind fun i7 =>
  some ([.one (Cell.int i7)], r6.2))
  none)
  none
theorem laws_markPlan_code (k m : Nat) (c1 : Cell) (c2 : Cell) (i3 : Int) (H : List Entry) : evC G_laws_markPlan fi_laws_markPlan (evF G_laws_markPlan (k + 1)) m fi_laws_markPlan.code none (retK G_laws_markPlan fi_laws_markPlan) (enter fi_laws_markPlan [.agg [c1, c2], .one (Cell.int i3)] H) = laws_markPlan (k + 1) m c1 c2 i3 H := by
  kernel_rfl
theorem laws_markPlan_eq (k : Nat) (c1 : Cell) (c2 : Cell) (i3 : Int) (H : List Entry) : evF G_laws_markPlan (k + 2) fid_laws_markPlan [.agg [c1, c2], .one (Cell.int i3)] H = laws_markPlan (k + 1) (k + 1) c1 c2 i3 H :=
  Eq.trans (by kernel_rfl) (laws_markPlan_code k (k + 1) c1 c2 i3 H)
theorem run_laws_markPlan_of {c1 : Cell} {c2 : Cell} {i3 : Int} {H : List Entry} {r : Res} (k : Nat) (h : laws_markPlan (k + 1) (k + 1) c1 c2 i3 H = some r) : run_laws_markPlan [.agg [c1, c2], .one (Cell.int i3)] H = some r := lim_of ((laws_markPlan_eq k c1 c2 i3 H).trans h)
noncomputable def pl_laws_heldStringS : List (Nat × Run) := [(fid_laws_markText, run_laws_markText)]
noncomputable def G_laws_heldStringS : Ctx := ctx tyTab fiTab pl_laws_heldStringS
noncomputable def run_laws_heldStringS : Run := lim G_laws_heldStringS fid_laws_heldStringS
theorem ok_laws_heldStringS : FnOk Try.prog OkT fid_laws_heldStringS run_laws_heldStringS := lim_ok (l := pl_laws_heldStringS) Try_mix tyTab_ok fiTab_ok okT (.cons ok_laws_markText .nil) fid_laws_heldStringS
noncomputable def laws_heldStringS_l0 (k m : Nat) : Nat → Cell → Int → Int → Option Res
  | 0, _, _, _ => none
  | n + 1, c3, i4, i5 =>
    (lenC c3).bind fun n6 =>
    cond (decide (i5 < (n6 : Int)))
    ((idxA 1 (c3) i5).bind fun c7 =>
    (deref [] (c7)).bind fun p8 =>
    (cS p8.1 p8.2).bind fun s9 =>
    (callS run_laws_markText [.one (Cell.int i4)] []).bind fun r10 =>
    cond (shapeOk rk_laws_markText r10)
    ((cS (cellsAt r10 0) 0).bind fun s11 =>
    cond (!(s9.toList == s11.toList))
    (some ([.one (Cell.int (-1))], []))
    (laws_heldStringS_l0 k m n (c3) (IntKind.i64.wrap (i4 + 1)) (IntKind.i64.wrap (i5 + 1))))
    none)
    (some ([.one (Cell.int i4)], []))
noncomputable def laws_heldStringS (k m : Nat) (c1 : Cell) (i2 : Int) : Option Res :=
  laws_heldStringS_l0 k m m (c1) i2 0
noncomputable abbrev laws_heldStringS_l0_B (k m : Nat) : (Ex → Fr → Option Res) → Fr → Option Res := evC G_laws_heldStringS fi_laws_heldStringS (evF G_laws_heldStringS (k + 1)) m (sub [1, 0, 1, 2, 3] fi_laws_heldStringS.code) none
noncomputable abbrev laws_heldStringS_l0_K (k m : Nat) : Ex → Fr → Option Res := blockK 0 (seqK (evC G_laws_heldStringS fi_laws_heldStringS (evF G_laws_heldStringS (k + 1)) m (sub [1, 1] fi_laws_heldStringS.code) none) (retK G_laws_heldStringS fi_laws_heldStringS))
theorem laws_heldStringS_l0_eq (k m : Nat) : ∀ (n : Nat) (c3 : Cell) (i4 : Int) (i5 : Int), loopK (some [0, 1, 5]) (laws_heldStringS_l0_B k m) (laws_heldStringS_l0_K k m) n ⟨fT 22 0 [(0, .av (.one (c3))), (1, .av (.one (Cell.int i4))), (5, .av (.one (Cell.int i5)))], fX 22 0 [], []⟩ = laws_heldStringS_l0 (k + 1) m n c3 i4 i5 := by
  intro n
  induction n with
  | zero => intros; rfl
  | succ n ih =>
    intros
    simp only [laws_heldStringS_l0, ← ih]
    kernel_rfl
theorem laws_heldStringS_code (k m : Nat) (c1 : Cell) (i2 : Int) : evC G_laws_heldStringS fi_laws_heldStringS (evF G_laws_heldStringS (k + 1)) m fi_laws_heldStringS.code none (retK G_laws_heldStringS fi_laws_heldStringS) (enter fi_laws_heldStringS [.one (c1), .one (Cell.int i2)] []) = laws_heldStringS (k + 1) m c1 i2 := by
  simp only [laws_heldStringS, ← laws_heldStringS_l0_eq k m]
  kernel_rfl
theorem laws_heldStringS_eq (k : Nat) (c1 : Cell) (i2 : Int) : evF G_laws_heldStringS (k + 2) fid_laws_heldStringS [.one (c1), .one (Cell.int i2)] [] = laws_heldStringS (k + 1) (k + 1) c1 i2 :=
  Eq.trans (by kernel_rfl) (laws_heldStringS_code k (k + 1) c1 i2)
theorem run_laws_heldStringS_of {c1 : Cell} {i2 : Int} {r : Res} (k : Nat) (h : laws_heldStringS (k + 1) (k + 1) c1 i2 = some r) : run_laws_heldStringS [.one (c1), .one (Cell.int i2)] [] = some r := lim_of ((laws_heldStringS_eq k c1 i2).trans h)
noncomputable def pl_spec_l13Graph : List (Nat × Run) := []
noncomputable def G_spec_l13Graph : Ctx := ctx tyTab fiTab pl_spec_l13Graph
noncomputable def run_spec_l13Graph : Run := lim G_spec_l13Graph fid_spec_l13Graph
theorem ok_spec_l13Graph : FnOk Try.prog OkT fid_spec_l13Graph run_spec_l13Graph := lim_ok (l := pl_spec_l13Graph) Try_mix tyTab_ok fiTab_ok okT .nil fid_spec_l13Graph
noncomputable def spec_l13Graph_l0 (k m : Nat) : Nat → Int → Cell → Cell → Cell → Cell → List Entry → Option Res
  | 0, _, _, _, _, _, _ => none
  | n + 1, i3, c4, c5, c6, c7, H8 =>
    (lenC c4).bind fun n9 =>
    cond (decide (i3 < (n9 : Int)))
    ((lenC c5).bind fun n10 =>
    cond (decide (i3 < (n10 : Int)))
    ((idxA 1 (c4) i3).bind fun c11 =>
    (deref H8 (c11)).bind fun p12 =>
    (cS p12.1 p12.2).bind fun s13 =>
    (srcRows (H8 ++ [Entry.mk 1 [[Cell.str s13]] 0 false]) 1 (.vs H8.length 1 0 1 0)).bind fun r14 =>
    (app (H8 ++ [Entry.mk 1 [[Cell.str s13]] 0 false]) 1 16 (c6) r14).bind fun p15 =>
    (idxA 1 (c5) i3).bind fun c16 =>
    (deref [] (c16)).bind fun p17 =>
    (cC p17.1 p17.2).bind fun c18 =>
    (srcRows (p15.2 ++ [Entry.mk 1 [] 0 false]) 1 c18).bind fun r19 =>
    (app (p15.2 ++ [Entry.mk 1 [] 0 false]) 1 16 ((.vs p15.2.length 1 0 0 0)) r19).bind fun p20 =>
    (srcRows (p20.2 ++ [Entry.mk 1 [[p20.1]] 0 false]) 1 (.vs p20.2.length 1 0 1 0)).bind fun r21 =>
    (app (p20.2 ++ [Entry.mk 1 [[p20.1]] 0 false]) 1 24 (c7) r21).bind fun p22 =>
    spec_l13Graph_l0 k m n (IntKind.i64.wrap (i3 + 1)) (c4) (c5) (p15.1) (p22.1) p22.2)
    (some ([.agg [c6, c7]], H8)))
    (some ([.agg [c6, c7]], H8))
noncomputable def spec_l13Graph (k m : Nat) (c1 : Cell) (c2 : Cell) : Option Res :=
  spec_l13Graph_l0 k m m 0 (c1) (c2) (.lst true 1 []) (.lst true 1 []) []
noncomputable abbrev spec_l13Graph_l0_B (k m : Nat) : (Ex → Fr → Option Res) → Fr → Option Res := evC G_spec_l13Graph fi_spec_l13Graph (evF G_spec_l13Graph (k + 1)) m (sub [1, 1, 0, 1, 2, 3] fi_spec_l13Graph.code) none
noncomputable abbrev spec_l13Graph_l0_K (k m : Nat) : Ex → Fr → Option Res := blockK 0 (seqK (evC G_spec_l13Graph fi_spec_l13Graph (evF G_spec_l13Graph (k + 1)) m (sub [1, 1, 1] fi_spec_l13Graph.code) none) (retK G_spec_l13Graph fi_spec_l13Graph))
theorem spec_l13Graph_l0_eq (k m : Nat) : ∀ (n : Nat) (i3 : Int) (c4 : Cell) (c5 : Cell) (c6 : Cell) (c7 : Cell) (H8 : List Entry), loopK (some [1, 2, 3, 4]) (spec_l13Graph_l0_B k m) (spec_l13Graph_l0_K k m) n ⟨fT 43 0 [(1, .loc 1 0), (2, .loc 2 0), (3, .loc 3 0), (4, .av (.one (Cell.int i3)))], fX 43 0 [(1, [c4, c5]), (2, [.lst true 1 [], .lst true 1 []]), (3, [c6, c7])], H8⟩ = spec_l13Graph_l0 (k + 1) m n i3 c4 c5 c6 c7 H8 := by
  intro n
  induction n with
  | zero => intros; rfl
  | succ n ih =>
    intros
    simp only [spec_l13Graph_l0, ← ih]
    kernel_rfl
theorem spec_l13Graph_code (k m : Nat) (c1 : Cell) (c2 : Cell) : evC G_spec_l13Graph fi_spec_l13Graph (evF G_spec_l13Graph (k + 1)) m fi_spec_l13Graph.code none (retK G_spec_l13Graph fi_spec_l13Graph) (enter fi_spec_l13Graph [.agg [c1, c2]] []) = spec_l13Graph (k + 1) m c1 c2 := by
  simp only [spec_l13Graph, ← spec_l13Graph_l0_eq k m]
  kernel_rfl
theorem spec_l13Graph_eq (k : Nat) (c1 : Cell) (c2 : Cell) : evF G_spec_l13Graph (k + 2) fid_spec_l13Graph [.agg [c1, c2]] [] = spec_l13Graph (k + 1) (k + 1) c1 c2 :=
  Eq.trans (by kernel_rfl) (spec_l13Graph_code k (k + 1) c1 c2)
theorem run_spec_l13Graph_of {c1 : Cell} {c2 : Cell} {r : Res} (k : Nat) (h : spec_l13Graph (k + 1) (k + 1) c1 c2 = some r) : run_spec_l13Graph [.agg [c1, c2]] [] = some r := lim_of ((spec_l13Graph_eq k c1 c2).trans h)
noncomputable def pl_spec_l1Has : List (Nat × Run) := []
noncomputable def G_spec_l1Has : Ctx := ctx tyTab fiTab pl_spec_l1Has
noncomputable def run_spec_l1Has : Run := lim G_spec_l1Has fid_spec_l1Has
theorem ok_spec_l1Has : FnOk Try.prog OkT fid_spec_l1Has run_spec_l1Has := lim_ok (l := pl_spec_l1Has) Try_mix tyTab_ok fiTab_ok okT .nil fid_spec_l1Has
noncomputable def spec_l1Has_l0 (k m : Nat) : Nat → Cell → ByteArray → Int → Option Res
  | 0, _, _, _ => none
  | n + 1, c3, s4, i5 =>
    (lenC c3).bind fun n6 =>
    cond (decide (i5 < (n6 : Int)))
    ((idxA 1 (c3) i5).bind fun c7 =>
    (deref [] (c7)).bind fun p8 =>
    (cS p8.1 p8.2).bind fun s9 =>
    cond (s9.toList == s4.toList)
    (some ([.one (Cell.bool true)], []))
    (spec_l1Has_l0 k m n (c3) s4 (IntKind.i64.wrap (i5 + 1))))
    (some ([.one (Cell.bool false)], []))
noncomputable def spec_l1Has (k m : Nat) (c1 : Cell) (s2 : ByteArray) : Option Res :=
  spec_l1Has_l0 k m m (c1) s2 0
noncomputable abbrev spec_l1Has_l0_B (k m : Nat) : (Ex → Fr → Option Res) → Fr → Option Res := evC G_spec_l1Has fi_spec_l1Has (evF G_spec_l1Has (k + 1)) m (sub [1, 0, 1, 2, 3] fi_spec_l1Has.code) none
noncomputable abbrev spec_l1Has_l0_K (k m : Nat) : Ex → Fr → Option Res := blockK 0 (seqK (evC G_spec_l1Has fi_spec_l1Has (evF G_spec_l1Has (k + 1)) m (sub [1, 1] fi_spec_l1Has.code) none) (retK G_spec_l1Has fi_spec_l1Has))
theorem spec_l1Has_l0_eq (k m : Nat) : ∀ (n : Nat) (c3 : Cell) (s4 : ByteArray) (i5 : Int), loopK (some [0, 1, 5]) (spec_l1Has_l0_B k m) (spec_l1Has_l0_K k m) n ⟨fT 18 0 [(0, .av (.one (c3))), (1, .av (.one (Cell.str s4))), (5, .av (.one (Cell.int i5)))], fX 18 0 [], []⟩ = spec_l1Has_l0 (k + 1) m n c3 s4 i5 := by
  intro n
  induction n with
  | zero => intros; rfl
  | succ n ih =>
    intros
    simp only [spec_l1Has_l0, ← ih]
    kernel_rfl
theorem spec_l1Has_code (k m : Nat) (c1 : Cell) (s2 : ByteArray) : evC G_spec_l1Has fi_spec_l1Has (evF G_spec_l1Has (k + 1)) m fi_spec_l1Has.code none (retK G_spec_l1Has fi_spec_l1Has) (enter fi_spec_l1Has [.one (c1), .one (Cell.str s2)] []) = spec_l1Has (k + 1) m c1 s2 := by
  simp only [spec_l1Has, ← spec_l1Has_l0_eq k m]
  kernel_rfl
theorem spec_l1Has_eq (k : Nat) (c1 : Cell) (s2 : ByteArray) : evF G_spec_l1Has (k + 2) fid_spec_l1Has [.one (c1), .one (Cell.str s2)] [] = spec_l1Has (k + 1) (k + 1) c1 s2 :=
  Eq.trans (by kernel_rfl) (spec_l1Has_code k (k + 1) c1 s2)
theorem run_spec_l1Has_of {c1 : Cell} {s2 : ByteArray} {r : Res} (k : Nat) (h : spec_l1Has (k + 1) (k + 1) c1 s2 = some r) : run_spec_l1Has [.one (c1), .one (Cell.str s2)] [] = some r := lim_of ((spec_l1Has_eq k c1 s2).trans h)
noncomputable def pl_spec_l11At : List (Nat × Run) := []
noncomputable def G_spec_l11At : Ctx := ctx tyTab fiTab pl_spec_l11At
noncomputable def run_spec_l11At : Run := lim G_spec_l11At fid_spec_l11At
theorem ok_spec_l11At : FnOk Try.prog OkT fid_spec_l11At run_spec_l11At := lim_ok (l := pl_spec_l11At) Try_mix tyTab_ok fiTab_ok okT .nil fid_spec_l11At
noncomputable def spec_l11At_l0 (k m : Nat) : Nat → ByteArray → Int → Cell → Cell → Option Res
  | 0, _, _, _, _ => none
  | n + 1, s4, i5, c6, c7 =>
    (lenC c6).bind fun n8 =>
    cond (decide (i5 < (n8 : Int)))
    ((idxA 1 (c6) i5).bind fun c9 =>
    (deref [] (c9)).bind fun p10 =>
    (cS p10.1 p10.2).bind fun s11 =>
    cond (s11.toList == s4.toList)
    (some ([.one (Cell.int i5)], []))
    (spec_l11At_l0 k m n s4 (IntKind.i64.wrap (i5 + 1)) (c6) (c7)))
    (some ([.one (Cell.int (-1))], []))
noncomputable def spec_l11At (k m : Nat) (c1 : Cell) (c2 : Cell) (s3 : ByteArray) : Option Res :=
  spec_l11At_l0 k m m s3 0 (c1) (c2)
noncomputable abbrev spec_l11At_l0_B (k m : Nat) : (Ex → Fr → Option Res) → Fr → Option Res := evC G_spec_l11At fi_spec_l11At (evF G_spec_l11At (k + 1)) m (sub [1, 0, 1, 2, 3] fi_spec_l11At.code) none
noncomputable abbrev spec_l11At_l0_K (k m : Nat) : Ex → Fr → Option Res := blockK 0 (seqK (evC G_spec_l11At fi_spec_l11At (evF G_spec_l11At (k + 1)) m (sub [1, 1] fi_spec_l11At.code) none) (retK G_spec_l11At fi_spec_l11At))
theorem spec_l11At_l0_eq (k m : Nat) : ∀ (n : Nat) (s4 : ByteArray) (i5 : Int) (c6 : Cell) (c7 : Cell), loopK (some [1, 2, 5]) (spec_l11At_l0_B k m) (spec_l11At_l0_K k m) n ⟨fT 21 0 [(1, .av (.one (Cell.str s4))), (2, .loc 2 0), (5, .av (.one (Cell.int i5)))], fX 21 0 [(2, [c6, c7])], []⟩ = spec_l11At_l0 (k + 1) m n s4 i5 c6 c7 := by
  intro n
  induction n with
  | zero => intros; rfl
  | succ n ih =>
    intros
    simp only [spec_l11At_l0, ← ih]
    kernel_rfl
theorem spec_l11At_code (k m : Nat) (c1 : Cell) (c2 : Cell) (s3 : ByteArray) : evC G_spec_l11At fi_spec_l11At (evF G_spec_l11At (k + 1)) m fi_spec_l11At.code none (retK G_spec_l11At fi_spec_l11At) (enter fi_spec_l11At [.agg [c1, c2], .one (Cell.str s3)] []) = spec_l11At (k + 1) m c1 c2 s3 := by
  simp only [spec_l11At, ← spec_l11At_l0_eq k m]
  kernel_rfl
theorem spec_l11At_eq (k : Nat) (c1 : Cell) (c2 : Cell) (s3 : ByteArray) : evF G_spec_l11At (k + 2) fid_spec_l11At [.agg [c1, c2], .one (Cell.str s3)] [] = spec_l11At (k + 1) (k + 1) c1 c2 s3 :=
  Eq.trans (by kernel_rfl) (spec_l11At_code k (k + 1) c1 c2 s3)
theorem run_spec_l11At_of {c1 : Cell} {c2 : Cell} {s3 : ByteArray} {r : Res} (k : Nat) (h : spec_l11At (k + 1) (k + 1) c1 c2 s3 = some r) : run_spec_l11At [.agg [c1, c2], .one (Cell.str s3)] [] = some r := lim_of ((spec_l11At_eq k c1 c2 s3).trans h)
noncomputable def pl_spec_l11Next : List (Nat × Run) := [(fid_spec_l11At, run_spec_l11At)]
noncomputable def G_spec_l11Next : Ctx := ctx tyTab fiTab pl_spec_l11Next
noncomputable def run_spec_l11Next : Run := lim G_spec_l11Next fid_spec_l11Next
theorem ok_spec_l11Next : FnOk Try.prog OkT fid_spec_l11Next run_spec_l11Next := lim_ok (l := pl_spec_l11Next) Try_mix tyTab_ok fiTab_ok okT (.cons ok_spec_l11At .nil) fid_spec_l11Next
noncomputable def spec_l11Next (k m : Nat) (c1 : Cell) (c2 : Cell) (s3 : ByteArray) : Option Res :=
  (callS run_spec_l11At [.agg [c1, c2], .one (Cell.str s3)] []).bind fun r4 =>
  cond (shapeOk rk_spec_l11At r4)
  ((cI .i64 (cellsAt r4 0) 0).bind fun i5 =>
  cond (decide (i5 < 0))
  (some ([.one (.lst true 1 [])], []))
  ((idxA 1 (c2) i5).bind fun c6 =>
  (deref [] (c6)).bind fun p7 =>
  (cC p7.1 p7.2).bind fun c8 =>
  some ([.one (c8)], [])))
  none
theorem spec_l11Next_code (k m : Nat) (c1 : Cell) (c2 : Cell) (s3 : ByteArray) : evC G_spec_l11Next fi_spec_l11Next (evF G_spec_l11Next (k + 1)) m fi_spec_l11Next.code none (retK G_spec_l11Next fi_spec_l11Next) (enter fi_spec_l11Next [.agg [c1, c2], .one (Cell.str s3)] []) = spec_l11Next (k + 1) m c1 c2 s3 := by
  kernel_rfl
theorem spec_l11Next_eq (k : Nat) (c1 : Cell) (c2 : Cell) (s3 : ByteArray) : evF G_spec_l11Next (k + 2) fid_spec_l11Next [.agg [c1, c2], .one (Cell.str s3)] [] = spec_l11Next (k + 1) (k + 1) c1 c2 s3 :=
  Eq.trans (by kernel_rfl) (spec_l11Next_code k (k + 1) c1 c2 s3)
theorem run_spec_l11Next_of {c1 : Cell} {c2 : Cell} {s3 : ByteArray} {r : Res} (k : Nat) (h : spec_l11Next (k + 1) (k + 1) c1 c2 s3 = some r) : run_spec_l11Next [.agg [c1, c2], .one (Cell.str s3)] [] = some r := lim_of ((spec_l11Next_eq k c1 c2 s3).trans h)
noncomputable def pl_spec_l11Ready : List (Nat × Run) := [(fid_spec_l11Next, run_spec_l11Next), (fid_spec_l1Has, run_spec_l1Has), (fid_spec_l11At, run_spec_l11At)]
noncomputable def G_spec_l11Ready : Ctx := ctx tyTab fiTab pl_spec_l11Ready
noncomputable def run_spec_l11Ready : Run := lim G_spec_l11Ready fid_spec_l11Ready
theorem ok_spec_l11Ready : FnOk Try.prog OkT fid_spec_l11Ready run_spec_l11Ready := lim_ok (l := pl_spec_l11Ready) Try_mix tyTab_ok fiTab_ok okT (.cons ok_spec_l11Next (.cons ok_spec_l1Has (.cons ok_spec_l11At .nil))) fid_spec_l11Ready
noncomputable def spec_l11Ready_l0 (k m : Nat) : Nat → Cell → Cell → Int → Cell → Cell → List Entry → Option Res
  | 0, _, _, _, _, _, _ => none
  | n + 1, c7, c8, i9, c10, c11, H12 =>
    (lenC c8).bind fun n13 =>
    cond (decide (i9 < (n13 : Int)))
    ((idxA 1 (c8) i9).bind fun c14 =>
    (deref H12 (c14)).bind fun p15 =>
    (cS p15.1 p15.2).bind fun s16 =>
    (callS run_spec_l1Has [.one (c7), .one (Cell.str s16)] H12).bind fun r17 =>
    cond (shapeOk rk_spec_l1Has r17)
    ((cB (cellsAt r17 0) 0).bind fun b18 =>
    cond (!b18)
    ((idxA 1 (c8) i9).bind fun c19 =>
    (deref H12 (c19)).bind fun p20 =>
    (cS p20.1 p20.2).bind fun s21 =>
    (callS run_spec_l11At [.agg [c10, c11], .one (Cell.str s21)] H12).bind fun r22 =>
    cond (shapeOk rk_spec_l11At r22)
    ((cI .i64 (cellsAt r22 0) 0).bind fun i23 =>
    cond (decide (i23 ≥ 0))
    (some ([.one (Cell.bool false)], H12))
    (spec_l11Ready_l0 k m n (c7) (c8) (IntKind.i64.wrap (i9 + 1)) (c10) (c11) H12))
    none)
    (spec_l11Ready_l0 k m n (c7) (c8) (IntKind.i64.wrap (i9 + 1)) (c10) (c11) H12))
    none)
    (some ([.one (Cell.bool true)], H12))
noncomputable def spec_l11Ready (k m : Nat) (c1 : Cell) (c2 : Cell) (s3 : ByteArray) (c4 : Cell) : Option Res :=
  (callL run_spec_l11Next [.agg [c1, c2], .one (Cell.str s3)] []).bind fun r5 =>
  cond (shapeOk rk_spec_l11Next r5.1)
  ((cC (cellsAt r5.1 0) 0).bind fun c6 =>
  spec_l11Ready_l0 k m m (c4) (c6) 0 (c1) (c2) r5.2)
  none
noncomputable abbrev spec_l11Ready_l0_B (k m : Nat) : (Ex → Fr → Option Res) → Fr → Option Res := evC G_spec_l11Ready fi_spec_l11Ready (evF G_spec_l11Ready (k + 1)) m (sub [1, 1, 0, 1, 2, 3] fi_spec_l11Ready.code) none
noncomputable abbrev spec_l11Ready_l0_K (k m : Nat) : Ex → Fr → Option Res := blockK 0 (seqK (evC G_spec_l11Ready fi_spec_l11Ready (evF G_spec_l11Ready (k + 1)) m (sub [1, 1, 1] fi_spec_l11Ready.code) none) (retK G_spec_l11Ready fi_spec_l11Ready))
theorem spec_l11Ready_l0_eq (k m : Nat) : ∀ (n : Nat) (c7 : Cell) (c8 : Cell) (i9 : Int) (c10 : Cell) (c11 : Cell) (H12 : List Entry), loopK (some [2, 3, 7, 8]) (spec_l11Ready_l0_B k m) (spec_l11Ready_l0_K k m) n ⟨fT 34 0 [(2, .av (.one (c7))), (3, .loc 3 0), (7, .av (.one (c8))), (8, .av (.one (Cell.int i9)))], fX 34 0 [(3, [c10, c11])], H12⟩ = spec_l11Ready_l0 (k + 1) m n c7 c8 i9 c10 c11 H12 := by
  intro n
  induction n with
  | zero => intros; rfl
  | succ n ih =>
    intros
    simp only [spec_l11Ready_l0, ← ih]
    kernel_rfl
theorem spec_l11Ready_code (k m : Nat) (c1 : Cell) (c2 : Cell) (s3 : ByteArray) (c4 : Cell) : evC G_spec_l11Ready fi_spec_l11Ready (evF G_spec_l11Ready (k + 1)) m fi_spec_l11Ready.code none (retK G_spec_l11Ready fi_spec_l11Ready) (enter fi_spec_l11Ready [.agg [c1, c2], .one (Cell.str s3), .one (c4)] []) = spec_l11Ready (k + 1) m c1 c2 s3 c4 := by
  simp only [spec_l11Ready, ← spec_l11Ready_l0_eq k m]
  kernel_rfl
theorem spec_l11Ready_eq (k : Nat) (c1 : Cell) (c2 : Cell) (s3 : ByteArray) (c4 : Cell) : evF G_spec_l11Ready (k + 2) fid_spec_l11Ready [.agg [c1, c2], .one (Cell.str s3), .one (c4)] [] = spec_l11Ready (k + 1) (k + 1) c1 c2 s3 c4 :=
  Eq.trans (by kernel_rfl) (spec_l11Ready_code k (k + 1) c1 c2 s3 c4)
theorem run_spec_l11Ready_of {c1 : Cell} {c2 : Cell} {s3 : ByteArray} {c4 : Cell} {r : Res} (k : Nat) (h : spec_l11Ready (k + 1) (k + 1) c1 c2 s3 c4 = some r) : run_spec_l11Ready [.agg [c1, c2], .one (Cell.str s3), .one (c4)] [] = some r := lim_of ((spec_l11Ready_eq k c1 c2 s3 c4).trans h)
noncomputable def pl_spec_l11Order : List (Nat × Run) := [(fid_spec_l1Has, run_spec_l1Has), (fid_spec_l11Ready, run_spec_l11Ready)]
noncomputable def G_spec_l11Order : Ctx := ctx tyTab fiTab pl_spec_l11Order
noncomputable def run_spec_l11Order : Run := lim G_spec_l11Order fid_spec_l11Order
theorem ok_spec_l11Order : FnOk Try.prog OkT fid_spec_l11Order run_spec_l11Order := lim_ok (l := pl_spec_l11Order) Try_mix tyTab_ok fiTab_ok okT (.cons ok_spec_l1Has (.cons ok_spec_l11Ready .nil)) fid_spec_l11Order
noncomputable def spec_l11Order_l1 (k m : Nat) (b_l0 : Cell → Cell → Cell → List Entry → Option Res) : Nat → Cell → Int → Cell → Cell → List Entry → Option Res
  | 0, _, _, _, _, _ => none
  | n + 1, c9, i10, c11, c12, H13 =>
    (lenC c11).bind fun n14 =>
    cond (decide (i10 < (n14 : Int)))
    ((idxA 1 (c11) i10).bind fun c15 =>
    (deref H13 (c15)).bind fun p16 =>
    (cS p16.1 p16.2).bind fun s17 =>
    (callS run_spec_l1Has [.one (c9), .one (Cell.str s17)] H13).bind fun r18 =>
    cond (shapeOk rk_spec_l1Has r18)
    ((cB (cellsAt r18 0) 0).bind fun b19 =>
    cond b19
    (spec_l11Order_l1 k m b_l0 n (c9) (IntKind.i64.wrap (i10 + 1)) (c11) (c12) H13)
    ((idxA 1 (c11) i10).bind fun c20 =>
    (deref H13 (c20)).bind fun p21 =>
    (cS p21.1 p21.2).bind fun s22 =>
    (callS run_spec_l11Ready [.agg [c11, c12], .one (Cell.str s22), .one (c9)] H13).bind fun r23 =>
    cond (shapeOk rk_spec_l11Ready r23)
    ((cB (cellsAt r23 0) 0).bind fun b24 =>
    cond (!b24)
    (spec_l11Order_l1 k m b_l0 n (c9) (IntKind.i64.wrap (i10 + 1)) (c11) (c12) H13)
    ((lenC c11).bind fun n25 =>
    cond (i10 == (n25 : Int))
    (some ([.one (.lst true 1 []), .one (Cell.bool false)], H13))
    ((idxA 1 (c11) i10).bind fun c26 =>
    (deref H13 (c26)).bind fun p27 =>
    (cS p27.1 p27.2).bind fun s28 =>
    (app H13 1 16 (c9) [[Cell.str s28]]).bind fun p29 =>
    b_l0 (p29.1) (c11) (c12) p29.2)))
    none))
    none)
    ((lenC c11).bind fun n30 =>
    cond (i10 == (n30 : Int))
    (some ([.one (.lst true 1 []), .one (Cell.bool false)], H13))
    ((idxA 1 (c11) i10).bind fun c31 =>
    (deref H13 (c31)).bind fun p32 =>
    (cS p32.1 p32.2).bind fun s33 =>
    (app H13 1 16 (c9) [[Cell.str s33]]).bind fun p34 =>
    b_l0 (p34.1) (c11) (c12) p34.2))
noncomputable def spec_l11Order_l0 (k m : Nat) : Nat → Cell → Cell → Cell → List Entry → Option Res
  | 0, _, _, _, _ => none
  | n + 1, c3, c4, c5, H6 =>
    (lenC c3).bind fun n7 =>
    (lenC c4).bind fun n8 =>
    cond (decide ((n7 : Int) < (n8 : Int)))
    (spec_l11Order_l1 k m (spec_l11Order_l0 k m n) m (c3) 0 (c4) (c5) H6)
    (some ([.one (c3), .one (Cell.bool true)], H6))
noncomputable def spec_l11Order (k m : Nat) (c1 : Cell) (c2 : Cell) : Option Res :=
  spec_l11Order_l0 k m m (.lst true 1 []) (c1) (c2) []
noncomputable abbrev spec_l11Order_l0_B (k m : Nat) : (Ex → Fr → Option Res) → Fr → Option Res := evC G_spec_l11Order fi_spec_l11Order (evF G_spec_l11Order (k + 1)) m (sub [1, 1, 0, 2, 3] fi_spec_l11Order.code) none
noncomputable abbrev spec_l11Order_l0_K (k m : Nat) : Ex → Fr → Option Res := blockK 0 (seqK (evC G_spec_l11Order fi_spec_l11Order (evF G_spec_l11Order (k + 1)) m (sub [1, 1, 1] fi_spec_l11Order.code) none) (retK G_spec_l11Order fi_spec_l11Order))
noncomputable abbrev spec_l11Order_l1_B (k m : Nat) : (Ex → Fr → Option Res) → Fr → Option Res := evC G_spec_l11Order fi_spec_l11Order (evF G_spec_l11Order (k + 1)) m (sub [1, 1, 0, 2, 3, 1, 2, 1, 0, 2, 3] fi_spec_l11Order.code) none
noncomputable abbrev spec_l11Order_l1_K (k m : Nat) (n_l0 : Nat) : Ex → Fr → Option Res := blockK 2 (seqK (evC G_spec_l11Order fi_spec_l11Order (evF G_spec_l11Order (k + 1)) m (sub [1, 1, 0, 2, 3, 1, 2, 1, 1] fi_spec_l11Order.code) none) (blockK 1 (loopE (fun s => loopK (some [1, 4]) (spec_l11Order_l0_B k m) (spec_l11Order_l0_K k m) n_l0 (keepS (some [1, 4]) s)) (spec_l11Order_l0_K k m))))
theorem spec_l11Order_l1_eq (k m : Nat) (b_l0 : Cell → Cell → Cell → List Entry → Option Res) (n_l0 : Nat) (h_l0 : ∀ (c3 : Cell) (c4 : Cell) (c5 : Cell) (H6 : List Entry), loopK (some [1, 4]) (spec_l11Order_l0_B k m) (spec_l11Order_l0_K k m) n_l0 ⟨fT 55 0 [(1, .loc 1 0), (4, .av (.one (c3)))], fX 55 0 [(1, [c4, c5])], H6⟩ = b_l0 c3 c4 c5 H6) : ∀ (n : Nat) (c9 : Cell) (i10 : Int) (c11 : Cell) (c12 : Cell) (H13 : List Entry), loopK (some [1, 4, 5]) (spec_l11Order_l1_B k m) (spec_l11Order_l1_K k m n_l0) n ⟨fT 55 0 [(1, .loc 1 0), (4, .av (.one (c9))), (5, .av (.one (Cell.int i10)))], fX 55 0 [(1, [c11, c12])], H13⟩ = spec_l11Order_l1 (k + 1) m b_l0 n c9 i10 c11 c12 H13 := by
  intro n
  induction n with
  | zero => intros; rfl
  | succ n ih =>
    intros
    simp only [spec_l11Order_l1, ← h_l0, ← ih]
    kernel_rfl
theorem spec_l11Order_l0_eq (k m : Nat) : ∀ (n : Nat) (c3 : Cell) (c4 : Cell) (c5 : Cell) (H6 : List Entry), loopK (some [1, 4]) (spec_l11Order_l0_B k m) (spec_l11Order_l0_K k m) n ⟨fT 55 0 [(1, .loc 1 0), (4, .av (.one (c3)))], fX 55 0 [(1, [c4, c5])], H6⟩ = spec_l11Order_l0 (k + 1) m n c3 c4 c5 H6 := by
  intro n
  induction n with
  | zero => intros; rfl
  | succ n ih =>
    intros
    simp only [spec_l11Order_l0, ← spec_l11Order_l1_eq k m _ _ (ih)]
    kernel_rfl
theorem spec_l11Order_code (k m : Nat) (c1 : Cell) (c2 : Cell) : evC G_spec_l11Order fi_spec_l11Order (evF G_spec_l11Order (k + 1)) m fi_spec_l11Order.code none (retK G_spec_l11Order fi_spec_l11Order) (enter fi_spec_l11Order [.agg [c1, c2]] []) = spec_l11Order (k + 1) m c1 c2 := by
  simp only [spec_l11Order, ← spec_l11Order_l0_eq k m]
  kernel_rfl
theorem spec_l11Order_eq (k : Nat) (c1 : Cell) (c2 : Cell) : evF G_spec_l11Order (k + 2) fid_spec_l11Order [.agg [c1, c2]] [] = spec_l11Order (k + 1) (k + 1) c1 c2 :=
  Eq.trans (by kernel_rfl) (spec_l11Order_code k (k + 1) c1 c2)
theorem run_spec_l11Order_of {c1 : Cell} {c2 : Cell} {r : Res} (k : Nat) (h : spec_l11Order (k + 1) (k + 1) c1 c2 = some r) : run_spec_l11Order [.agg [c1, c2]] [] = some r := lim_of ((spec_l11Order_eq k c1 c2).trans h)
end Go.Ev
