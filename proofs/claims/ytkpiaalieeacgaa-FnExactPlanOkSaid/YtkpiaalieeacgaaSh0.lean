/- What the evaluator says of the functions, each as a Lean function over cells. Printed by a program of this claim. Conditions: none. -/
import Derived.Test.YtkpiaalieeacgaaEvPr
import Derived.KernelRfl
namespace Go.Ev
open Go Go.Proofs
set_option maxRecDepth 100000
set_option linter.unusedVariables false
set_option linter.unusedSimpArgs false
noncomputable def pl_laws_szStringS : List (Nat × Run) := []
noncomputable def G_laws_szStringS : Ctx := ctx tyTab fiTab pl_laws_szStringS
noncomputable def run_laws_szStringS : Run := lim G_laws_szStringS fid_laws_szStringS
theorem ok_laws_szStringS : FnOk Try.prog OkT fid_laws_szStringS run_laws_szStringS := lim_ok (l := pl_laws_szStringS) Try_mix tyTab_ok fiTab_ok okT .nil fid_laws_szStringS
noncomputable def laws_szStringS_l0 (k m : Nat) : Nat → Cell → Int → Int → Option Res
  | 0, _, _, _ => none
  | n + 1, c4, i5, i6 =>
    (lenC c4).bind fun n7 =>
    cond (decide (i6 < (n7 : Int)))
    ((idxA 1 (c4) i6).bind fun c8 =>
    (deref [] (c8)).bind fun p9 =>
    (cS p9.1 p9.2).bind fun s10 =>
    cond (decide ((IntKind.i64.wrap (i5 - (s10.size : Int))) < 0))
    (some ([.one (Cell.int (-1))], []))
    (laws_szStringS_l0 k m n (c4) (IntKind.i64.wrap (i5 - (s10.size : Int))) (IntKind.i64.wrap (i6 + 1))))
    (some ([.one (Cell.int i5)], []))
noncomputable def laws_szStringS (k m : Nat) (c1 : Cell) (i2 : Int) : Option Res :=
  (lenC c1).bind fun n3 =>
  cond (decide ((IntKind.i64.wrap (i2 - (n3 : Int))) < 0))
  (some ([.one (Cell.int (-1))], []))
  (laws_szStringS_l0 k m m (c1) (IntKind.i64.wrap (i2 - (n3 : Int))) 0)
noncomputable abbrev laws_szStringS_l0_B (k m : Nat) : (Ex → Fr → Option Res) → Fr → Option Res := evC G_laws_szStringS fi_laws_szStringS (evF G_laws_szStringS (k + 1)) m (sub [1, 1, 1, 0, 1, 2, 3] fi_laws_szStringS.code) none
noncomputable abbrev laws_szStringS_l0_K (k m : Nat) : Ex → Fr → Option Res := blockK 0 (seqK (evC G_laws_szStringS fi_laws_szStringS (evF G_laws_szStringS (k + 1)) m (sub [1, 1, 1, 1] fi_laws_szStringS.code) none) (retK G_laws_szStringS fi_laws_szStringS))
theorem laws_szStringS_l0_eq (k m : Nat) : ∀ (n : Nat) (c4 : Cell) (i5 : Int) (i6 : Int), loopK (some [0, 1, 5]) (laws_szStringS_l0_B k m) (laws_szStringS_l0_K k m) n ⟨fT 28 0 [(0, .av (.one (c4))), (1, .av (.one (Cell.int i5))), (5, .av (.one (Cell.int i6)))], fX 28 0 [], []⟩ = laws_szStringS_l0 (k + 1) m n c4 i5 i6 := by
  intro n
  induction n with
  | zero => intros; rfl
  | succ n ih =>
    intros
    simp only [laws_szStringS_l0, ← ih]
    kernel_rfl
theorem laws_szStringS_code (k m : Nat) (c1 : Cell) (i2 : Int) : evC G_laws_szStringS fi_laws_szStringS (evF G_laws_szStringS (k + 1)) m fi_laws_szStringS.code none (retK G_laws_szStringS fi_laws_szStringS) (enter fi_laws_szStringS [.one (c1), .one (Cell.int i2)] []) = laws_szStringS (k + 1) m c1 i2 := by
  simp only [laws_szStringS, ← laws_szStringS_l0_eq k m]
  kernel_rfl
theorem laws_szStringS_eq (k : Nat) (c1 : Cell) (i2 : Int) : evF G_laws_szStringS (k + 2) fid_laws_szStringS [.one (c1), .one (Cell.int i2)] [] = laws_szStringS (k + 1) (k + 1) c1 i2 :=
  Eq.trans (by kernel_rfl) (laws_szStringS_code k (k + 1) c1 i2)
theorem run_laws_szStringS_of {c1 : Cell} {i2 : Int} {r : Res} (k : Nat) (h : laws_szStringS (k + 1) (k + 1) c1 i2 = some r) : run_laws_szStringS [.one (c1), .one (Cell.int i2)] [] = some r := lim_of ((laws_szStringS_eq k c1 i2).trans h)
noncomputable def pl_laws_szStringSS : List (Nat × Run) := [(fid_laws_szStringS, run_laws_szStringS)]
noncomputable def G_laws_szStringSS : Ctx := ctx tyTab fiTab pl_laws_szStringSS
noncomputable def run_laws_szStringSS : Run := lim G_laws_szStringSS fid_laws_szStringSS
theorem ok_laws_szStringSS : FnOk Try.prog OkT fid_laws_szStringSS run_laws_szStringSS := lim_ok (l := pl_laws_szStringSS) Try_mix tyTab_ok fiTab_ok okT (.cons ok_laws_szStringS .nil) fid_laws_szStringSS
noncomputable def laws_szStringSS_l0 (k m : Nat) : Nat → Cell → Int → Int → Option Res
  | 0, _, _, _ => none
  | n + 1, c4, i5, i6 =>
    (lenC c4).bind fun n7 =>
    cond (decide (i6 < (n7 : Int)))
    ((idxA 1 (c4) i6).bind fun c8 =>
    (deref [] (c8)).bind fun p9 =>
    (cC p9.1 p9.2).bind fun c10 =>
    (callS run_laws_szStringS [.one (c10), .one (Cell.int i5)] []).bind fun r11 =>
    cond (shapeOk rk_laws_szStringS r11)
    ((cI .i64 (cellsAt r11 0) 0).bind fun i12 =>
    cond (decide (i12 < 0))
    (some ([.one (Cell.int (-1))], []))
    (laws_szStringSS_l0 k m n (c4) i12 (IntKind.i64.wrap (i6 + 1))))
    none)
    (some ([.one (Cell.int i5)], []))
noncomputable def laws_szStringSS (k m : Nat) (c1 : Cell) (i2 : Int) : Option Res :=
  (lenC c1).bind fun n3 =>
  cond (decide ((IntKind.i64.wrap (i2 - (n3 : Int))) < 0))
  (some ([.one (Cell.int (-1))], []))
  (laws_szStringSS_l0 k m m (c1) (IntKind.i64.wrap (i2 - (n3 : Int))) 0)
noncomputable abbrev laws_szStringSS_l0_B (k m : Nat) : (Ex → Fr → Option Res) → Fr → Option Res := evC G_laws_szStringSS fi_laws_szStringSS (evF G_laws_szStringSS (k + 1)) m (sub [1, 1, 1, 0, 1, 2, 3] fi_laws_szStringSS.code) none
noncomputable abbrev laws_szStringSS_l0_K (k m : Nat) : Ex → Fr → Option Res := blockK 0 (seqK (evC G_laws_szStringSS fi_laws_szStringSS (evF G_laws_szStringSS (k + 1)) m (sub [1, 1, 1, 1] fi_laws_szStringSS.code) none) (retK G_laws_szStringSS fi_laws_szStringSS))
theorem laws_szStringSS_l0_eq (k m : Nat) : ∀ (n : Nat) (c4 : Cell) (i5 : Int) (i6 : Int), loopK (some [0, 1, 5]) (laws_szStringSS_l0_B k m) (laws_szStringSS_l0_K k m) n ⟨fT 27 0 [(0, .av (.one (c4))), (1, .av (.one (Cell.int i5))), (5, .av (.one (Cell.int i6)))], fX 27 0 [], []⟩ = laws_szStringSS_l0 (k + 1) m n c4 i5 i6 := by
  intro n
  induction n with
  | zero => intros; rfl
  | succ n ih =>
    intros
    simp only [laws_szStringSS_l0, ← ih]
    kernel_rfl
theorem laws_szStringSS_code (k m : Nat) (c1 : Cell) (i2 : Int) : evC G_laws_szStringSS fi_laws_szStringSS (evF G_laws_szStringSS (k + 1)) m fi_laws_szStringSS.code none (retK G_laws_szStringSS fi_laws_szStringSS) (enter fi_laws_szStringSS [.one (c1), .one (Cell.int i2)] []) = laws_szStringSS (k + 1) m c1 i2 := by
  simp only [laws_szStringSS, ← laws_szStringSS_l0_eq k m]
  kernel_rfl
theorem laws_szStringSS_eq (k : Nat) (c1 : Cell) (i2 : Int) : evF G_laws_szStringSS (k + 2) fid_laws_szStringSS [.one (c1), .one (Cell.int i2)] [] = laws_szStringSS (k + 1) (k + 1) c1 i2 :=
  Eq.trans (by kernel_rfl) (laws_szStringSS_code k (k + 1) c1 i2)
theorem run_laws_szStringSS_of {c1 : Cell} {i2 : Int} {r : Res} (k : Nat) (h : laws_szStringSS (k + 1) (k + 1) c1 i2 = some r) : run_laws_szStringSS [.one (c1), .one (Cell.int i2)] [] = some r := lim_of ((laws_szStringSS_eq k c1 i2).trans h)
noncomputable def pl_laws_szPlan : List (Nat × Run) := [(fid_laws_szStringS, run_laws_szStringS), (fid_laws_szStringSS, run_laws_szStringSS)]
noncomputable def G_laws_szPlan : Ctx := ctx tyTab fiTab pl_laws_szPlan
noncomputable def run_laws_szPlan : Run := lim G_laws_szPlan fid_laws_szPlan
theorem ok_laws_szPlan : FnOk Try.prog OkT fid_laws_szPlan run_laws_szPlan := lim_ok (l := pl_laws_szPlan) Try_mix tyTab_ok fiTab_ok okT (.cons ok_laws_szStringS (.cons ok_laws_szStringSS .nil)) fid_laws_szPlan
noncomputable def laws_szPlan (k m : Nat) (c1 : Cell) (c2 : Cell) (i3 : Int) : Option Res :=
  (callS run_laws_szStringS [.one (c1), .one (Cell.int i3)] []).bind fun r4 =>
  cond (shapeOk rk_laws_szStringS r4)
  ((cI .i64 (cellsAt r4 0) 0).bind fun i5 =>
  cond (decide (i5 < 0))
  (some ([.one (Cell.int (-1))], []))
  ((callS run_laws_szStringSS [.one (c2), .one (Cell.int i5)] []).bind fun r6 =>
  cond (shapeOk rk_laws_szStringSS r6)
  ((cI .i64 (cellsAt r6 0) 0).bind fun i7 =>
  cond (decide (i7 < 0))
  (some ([.one (Cell.int (-1))], []))
  (some ([.one (Cell.int i7)], [])))
  none))
  none
theorem laws_szPlan_code (k m : Nat) (c1 : Cell) (c2 : Cell) (i3 : Int) : evC G_laws_szPlan fi_laws_szPlan (evF G_laws_szPlan (k + 1)) m fi_laws_szPlan.code none (retK G_laws_szPlan fi_laws_szPlan) (enter fi_laws_szPlan [.agg [c1, c2], .one (Cell.int i3)] []) = laws_szPlan (k + 1) m c1 c2 i3 := by
  kernel_rfl
theorem laws_szPlan_eq (k : Nat) (c1 : Cell) (c2 : Cell) (i3 : Int) : evF G_laws_szPlan (k + 2) fid_laws_szPlan [.agg [c1, c2], .one (Cell.int i3)] [] = laws_szPlan (k + 1) (k + 1) c1 c2 i3 :=
  Eq.trans (by kernel_rfl) (laws_szPlan_code k (k + 1) c1 c2 i3)
theorem run_laws_szPlan_of {c1 : Cell} {c2 : Cell} {i3 : Int} {r : Res} (k : Nat) (h : laws_szPlan (k + 1) (k + 1) c1 c2 i3 = some r) : run_laws_szPlan [.agg [c1, c2], .one (Cell.int i3)] [] = some r := lim_of ((laws_szPlan_eq k c1 c2 i3).trans h)
noncomputable def pl_laws_toStringS : List (Nat × Run) := []
noncomputable def G_laws_toStringS : Ctx := ctx tyTab fiTab pl_laws_toStringS
noncomputable def run_laws_toStringS : Run := lim G_laws_toStringS fid_laws_toStringS
theorem ok_laws_toStringS : FnOk Try.prog OkT fid_laws_toStringS run_laws_toStringS := lim_ok (l := pl_laws_toStringS) Try_mix tyTab_ok fiTab_ok okT .nil fid_laws_toStringS
noncomputable def laws_toStringS_l0 (k m : Nat) : Nat → Cell → Cell → Int → List Entry → Option Res
  | 0, _, _, _, _ => none
  | n + 1, c3, c4, i5, H6 =>
    (lenC c3).bind fun n7 =>
    cond (decide (i5 < (n7 : Int)))
    ((idxA 1 (c3) i5).bind fun c8 =>
    (deref H6 (c8)).bind fun p9 =>
    (cS p9.1 p9.2).bind fun s10 =>
    (idxA 1 (c4) i5).bind fun c11 =>
    (hStore H6 (c11) [Cell.str s10]).bind fun h12 =>
    laws_toStringS_l0 k m n (c3) (c4) (IntKind.i64.wrap (i5 + 1)) h12)
    (some ([.one (c4)], H6))
noncomputable def laws_toStringS (k m : Nat) (c1 : Cell) : Option Res :=
  (lenC c1).bind fun n2 =>
  if 0 ≤ (n2 : Int) ∧ (n2 : Int) ≤ (n2 : Int) ∧ (n2 : Int) * 16 ≤ bound ∧ (n2 : Int) ≤ bound then
  (laws_toStringS_l0 k m m (c1) ((.vs 0 1 0 (n2 : Int).toNat 0)) 0 [Entry.mk 1 (mkRows (n2 : Int).toNat [Cell.str (bs [])]) 0 false]) else none
noncomputable abbrev laws_toStringS_l0_B (k m : Nat) : (Ex → Fr → Option Res) → Fr → Option Res := evC G_laws_toStringS fi_laws_toStringS (evF G_laws_toStringS (k + 1)) m (sub [1, 1, 0, 1, 2, 3] fi_laws_toStringS.code) none
noncomputable abbrev laws_toStringS_l0_K (k m : Nat) : Ex → Fr → Option Res := blockK 0 (seqK (evC G_laws_toStringS fi_laws_toStringS (evF G_laws_toStringS (k + 1)) m (sub [1, 1, 1] fi_laws_toStringS.code) none) (retK G_laws_toStringS fi_laws_toStringS))
theorem laws_toStringS_l0_eq (k m : Nat) : ∀ (n : Nat) (c3 : Cell) (c4 : Cell) (i5 : Int) (H6 : List Entry), loopK (some [0, 3, 4]) (laws_toStringS_l0_B k m) (laws_toStringS_l0_K k m) n ⟨fT 22 0 [(0, .av (.one (c3))), (3, .av (.one (c4))), (4, .av (.one (Cell.int i5)))], fX 22 0 [], H6⟩ = laws_toStringS_l0 (k + 1) m n c3 c4 i5 H6 := by
  intro n
  induction n with
  | zero => intros; rfl
  | succ n ih =>
    intros
    simp only [laws_toStringS_l0, ← ih]
    kernel_rfl
theorem laws_toStringS_code (k m : Nat) (c1 : Cell) : evC G_laws_toStringS fi_laws_toStringS (evF G_laws_toStringS (k + 1)) m fi_laws_toStringS.code none (retK G_laws_toStringS fi_laws_toStringS) (enter fi_laws_toStringS [.one (c1)] []) = laws_toStringS (k + 1) m c1 := by
  simp only [laws_toStringS, ← laws_toStringS_l0_eq k m]
  kernel_rfl
theorem laws_toStringS_eq (k : Nat) (c1 : Cell) : evF G_laws_toStringS (k + 2) fid_laws_toStringS [.one (c1)] [] = laws_toStringS (k + 1) (k + 1) c1 :=
  Eq.trans (by kernel_rfl) (laws_toStringS_code k (k + 1) c1)
theorem run_laws_toStringS_of {c1 : Cell} {r : Res} (k : Nat) (h : laws_toStringS (k + 1) (k + 1) c1 = some r) : run_laws_toStringS [.one (c1)] [] = some r := lim_of ((laws_toStringS_eq k c1).trans h)
noncomputable def pl_laws_toStringSS : List (Nat × Run) := [(fid_laws_toStringS, run_laws_toStringS)]
noncomputable def G_laws_toStringSS : Ctx := ctx tyTab fiTab pl_laws_toStringSS
noncomputable def run_laws_toStringSS : Run := lim G_laws_toStringSS fid_laws_toStringSS
theorem ok_laws_toStringSS : FnOk Try.prog OkT fid_laws_toStringSS run_laws_toStringSS := lim_ok (l := pl_laws_toStringSS) Try_mix tyTab_ok fiTab_ok okT (.cons ok_laws_toStringS .nil) fid_laws_toStringSS
noncomputable def laws_toStringSS_l0 (k m : Nat) : Nat → Cell → Cell → Int → List Entry → Option Res
  | 0, _, _, _, _ => none
  | n + 1, c3, c4, i5, H6 =>
    (lenC c3).bind fun n7 =>
    cond (decide (i5 < (n7 : Int)))
    ((idxA 1 (c3) i5).bind fun c8 =>
    (deref H6 (c8)).bind fun p9 =>
    (cC p9.1 p9.2).bind fun c10 =>
    (callL run_laws_toStringS [.one (c10)] H6).bind fun r11 =>
    cond (shapeOk rk_laws_toStringS r11.1)
    ((cC (cellsAt r11.1 0) 0).bind fun c12 =>
    (idxA 1 (c4) i5).bind fun c13 =>
    (hStore r11.2 (c13) [c12]).bind fun h14 =>
    laws_toStringSS_l0 k m n (c3) (c4) (IntKind.i64.wrap (i5 + 1)) h14)
    none)
    (some ([.one (c4)], H6))
noncomputable def laws_toStringSS (k m : Nat) (c1 : Cell) : Option Res :=
  (lenC c1).bind fun n2 =>
  if 0 ≤ (n2 : Int) ∧ (n2 : Int) ≤ (n2 : Int) ∧ (n2 : Int) * 24 ≤ bound ∧ (n2 : Int) ≤ bound then
  (laws_toStringSS_l0 k m m (c1) ((.vs 0 1 0 (n2 : Int).toNat 0)) 0 [Entry.mk 1 (mkRows (n2 : Int).toNat [.lst true 1 []]) 0 false]) else none
noncomputable abbrev laws_toStringSS_l0_B (k m : Nat) : (Ex → Fr → Option Res) → Fr → Option Res := evC G_laws_toStringSS fi_laws_toStringSS (evF G_laws_toStringSS (k + 1)) m (sub [1, 1, 0, 1, 2, 3] fi_laws_toStringSS.code) none
noncomputable abbrev laws_toStringSS_l0_K (k m : Nat) : Ex → Fr → Option Res := blockK 0 (seqK (evC G_laws_toStringSS fi_laws_toStringSS (evF G_laws_toStringSS (k + 1)) m (sub [1, 1, 1] fi_laws_toStringSS.code) none) (retK G_laws_toStringSS fi_laws_toStringSS))
theorem laws_toStringSS_l0_eq (k m : Nat) : ∀ (n : Nat) (c3 : Cell) (c4 : Cell) (i5 : Int) (H6 : List Entry), loopK (some [0, 3, 4]) (laws_toStringSS_l0_B k m) (laws_toStringSS_l0_K k m) n ⟨fT 23 0 [(0, .av (.one (c3))), (3, .av (.one (c4))), (4, .av (.one (Cell.int i5)))], fX 23 0 [], H6⟩ = laws_toStringSS_l0 (k + 1) m n c3 c4 i5 H6 := by
  intro n
  induction n with
  | zero => intros; rfl
  | succ n ih =>
    intros
    simp only [laws_toStringSS_l0, ← ih]
    kernel_rfl
theorem laws_toStringSS_code (k m : Nat) (c1 : Cell) : evC G_laws_toStringSS fi_laws_toStringSS (evF G_laws_toStringSS (k + 1)) m fi_laws_toStringSS.code none (retK G_laws_toStringSS fi_laws_toStringSS) (enter fi_laws_toStringSS [.one (c1)] []) = laws_toStringSS (k + 1) m c1 := by
  simp only [laws_toStringSS, ← laws_toStringSS_l0_eq k m]
  kernel_rfl
theorem laws_toStringSS_eq (k : Nat) (c1 : Cell) : evF G_laws_toStringSS (k + 2) fid_laws_toStringSS [.one (c1)] [] = laws_toStringSS (k + 1) (k + 1) c1 :=
  Eq.trans (by kernel_rfl) (laws_toStringSS_code k (k + 1) c1)
theorem run_laws_toStringSS_of {c1 : Cell} {r : Res} (k : Nat) (h : laws_toStringSS (k + 1) (k + 1) c1 = some r) : run_laws_toStringSS [.one (c1)] [] = some r := lim_of ((laws_toStringSS_eq k c1).trans h)
noncomputable def pl_laws_toPlan : List (Nat × Run) := [(fid_laws_toStringS, run_laws_toStringS), (fid_laws_toStringSS, run_laws_toStringSS)]
noncomputable def G_laws_toPlan : Ctx := ctx tyTab fiTab pl_laws_toPlan
noncomputable def run_laws_toPlan : Run := lim G_laws_toPlan fid_laws_toPlan
theorem ok_laws_toPlan : FnOk Try.prog OkT fid_laws_toPlan run_laws_toPlan := lim_ok (l := pl_laws_toPlan) Try_mix tyTab_ok fiTab_ok okT (.cons ok_laws_toStringS (.cons ok_laws_toStringSS .nil)) fid_laws_toPlan
noncomputable def laws_toPlan (k m : Nat) (c1 : Cell) (c2 : Cell) : Option Res :=
  (callL run_laws_toStringS [.one (c1)] []).bind fun r3 =>
  cond (shapeOk rk_laws_toStringS r3.1)
  ((cC (cellsAt r3.1 0) 0).bind fun c4 =>
  (callL run_laws_toStringSS [.one (c2)] r3.2).bind fun r5 =>
  cond (shapeOk rk_laws_toStringSS r5.1)
  ((cC (cellsAt r5.1 0) 0).bind fun c6 =>
  some ([.agg [c4, c6]], r5.2))
  none)
  none
theorem laws_toPlan_code (k m : Nat) (c1 : Cell) (c2 : Cell) : evC G_laws_toPlan fi_laws_toPlan (evF G_laws_toPlan (k + 1)) m fi_laws_toPlan.code none (retK G_laws_toPlan fi_laws_toPlan) (enter fi_laws_toPlan [.agg [c1, c2]] []) = laws_toPlan (k + 1) m c1 c2 := by
  kernel_rfl
theorem laws_toPlan_eq (k : Nat) (c1 : Cell) (c2 : Cell) : evF G_laws_toPlan (k + 2) fid_laws_toPlan [.agg [c1, c2]] [] = laws_toPlan (k + 1) (k + 1) c1 c2 :=
  Eq.trans (by kernel_rfl) (laws_toPlan_code k (k + 1) c1 c2)
theorem run_laws_toPlan_of {c1 : Cell} {c2 : Cell} {r : Res} (k : Nat) (h : laws_toPlan (k + 1) (k + 1) c1 c2 = some r) : run_laws_toPlan [.agg [c1, c2]] [] = some r := lim_of ((laws_toPlan_eq k c1 c2).trans h)
noncomputable def pl_laws_eqStringS : List (Nat × Run) := []
noncomputable def G_laws_eqStringS : Ctx := ctx tyTab fiTab pl_laws_eqStringS
noncomputable def run_laws_eqStringS : Run := lim G_laws_eqStringS fid_laws_eqStringS
theorem ok_laws_eqStringS : FnOk Try.prog OkT fid_laws_eqStringS run_laws_eqStringS := lim_ok (l := pl_laws_eqStringS) Try_mix tyTab_ok fiTab_ok okT .nil fid_laws_eqStringS
noncomputable def laws_eqStringS_l0 (k m : Nat) : Nat → Cell → Cell → Int → Option Res
  | 0, _, _, _ => none
  | n + 1, c5, c6, i7 =>
    (lenC c5).bind fun n8 =>
    cond (decide (i7 < (n8 : Int)))
    ((idxA 1 (c5) i7).bind fun c9 =>
    (deref [] (c9)).bind fun p10 =>
    (cS p10.1 p10.2).bind fun s11 =>
    (idxA 1 (c6) i7).bind fun c12 =>
    (deref [] (c12)).bind fun p13 =>
    (cS p13.1 p13.2).bind fun s14 =>
    cond (!(s11.toList == s14.toList))
    (some ([.one (Cell.bool false)], []))
    (laws_eqStringS_l0 k m n (c5) (c6) (IntKind.i64.wrap (i7 + 1))))
    (some ([.one (Cell.bool true)], []))
noncomputable def laws_eqStringS (k m : Nat) (c1 : Cell) (c2 : Cell) : Option Res :=
  (lenC c1).bind fun n3 =>
  (lenC c2).bind fun n4 =>
  cond ((n3 : Int) != (n4 : Int))
  (some ([.one (Cell.bool false)], []))
  (laws_eqStringS_l0 k m m (c1) (c2) 0)
noncomputable abbrev laws_eqStringS_l0_B (k m : Nat) : (Ex → Fr → Option Res) → Fr → Option Res := evC G_laws_eqStringS fi_laws_eqStringS (evF G_laws_eqStringS (k + 1)) m (sub [1, 1, 0, 1, 2, 3] fi_laws_eqStringS.code) none
noncomputable abbrev laws_eqStringS_l0_K (k m : Nat) : Ex → Fr → Option Res := blockK 0 (seqK (evC G_laws_eqStringS fi_laws_eqStringS (evF G_laws_eqStringS (k + 1)) m (sub [1, 1, 1] fi_laws_eqStringS.code) none) (retK G_laws_eqStringS fi_laws_eqStringS))
theorem laws_eqStringS_l0_eq (k m : Nat) : ∀ (n : Nat) (c5 : Cell) (c6 : Cell) (i7 : Int), loopK (some [0, 1, 5]) (laws_eqStringS_l0_B k m) (laws_eqStringS_l0_K k m) n ⟨fT 26 0 [(0, .av (.one (c5))), (1, .av (.one (c6))), (5, .av (.one (Cell.int i7)))], fX 26 0 [], []⟩ = laws_eqStringS_l0 (k + 1) m n c5 c6 i7 := by
  intro n
  induction n with
  | zero => intros; rfl
  | succ n ih =>
    intros
    simp only [laws_eqStringS_l0, ← ih]
    kernel_rfl
theorem laws_eqStringS_code (k m : Nat) (c1 : Cell) (c2 : Cell) : evC G_laws_eqStringS fi_laws_eqStringS (evF G_laws_eqStringS (k + 1)) m fi_laws_eqStringS.code none (retK G_laws_eqStringS fi_laws_eqStringS) (enter fi_laws_eqStringS [.one (c1), .one (c2)] []) = laws_eqStringS (k + 1) m c1 c2 := by
  simp only [laws_eqStringS, ← laws_eqStringS_l0_eq k m]
  kernel_rfl
theorem laws_eqStringS_eq (k : Nat) (c1 : Cell) (c2 : Cell) : evF G_laws_eqStringS (k + 2) fid_laws_eqStringS [.one (c1), .one (c2)] [] = laws_eqStringS (k + 1) (k + 1) c1 c2 :=
  Eq.trans (by kernel_rfl) (laws_eqStringS_code k (k + 1) c1 c2)
theorem run_laws_eqStringS_of {c1 : Cell} {c2 : Cell} {r : Res} (k : Nat) (h : laws_eqStringS (k + 1) (k + 1) c1 c2 = some r) : run_laws_eqStringS [.one (c1), .one (c2)] [] = some r := lim_of ((laws_eqStringS_eq k c1 c2).trans h)
noncomputable def pl_laws_eqStringSS : List (Nat × Run) := [(fid_laws_eqStringS, run_laws_eqStringS)]
noncomputable def G_laws_eqStringSS : Ctx := ctx tyTab fiTab pl_laws_eqStringSS
noncomputable def run_laws_eqStringSS : Run := lim G_laws_eqStringSS fid_laws_eqStringSS
theorem ok_laws_eqStringSS : FnOk Try.prog OkT fid_laws_eqStringSS run_laws_eqStringSS := lim_ok (l := pl_laws_eqStringSS) Try_mix tyTab_ok fiTab_ok okT (.cons ok_laws_eqStringS .nil) fid_laws_eqStringSS
noncomputable def laws_eqStringSS_l0 (k m : Nat) : Nat → Cell → Cell → Int → Option Res
  | 0, _, _, _ => none
  | n + 1, c5, c6, i7 =>
    (lenC c5).bind fun n8 =>
    cond (decide (i7 < (n8 : Int)))
    ((idxA 1 (c5) i7).bind fun c9 =>
    (deref [] (c9)).bind fun p10 =>
    (cC p10.1 p10.2).bind fun c11 =>
    (idxA 1 (c6) i7).bind fun c12 =>
    (deref [] (c12)).bind fun p13 =>
    (cC p13.1 p13.2).bind fun c14 =>
    (callS run_laws_eqStringS [.one (c11), .one (c14)] []).bind fun r15 =>
    cond (shapeOk rk_laws_eqStringS r15)
    ((cB (cellsAt r15 0) 0).bind fun b16 =>
    cond (!b16)
    (some ([.one (Cell.bool false)], []))
    (laws_eqStringSS_l0 k m n (c5) (c6) (IntKind.i64.wrap (i7 + 1))))
    none)
    (some ([.one (Cell.bool true)], []))
noncomputable def laws_eqStringSS (k m : Nat) (c1 : Cell) (c2 : Cell) : Option Res :=
  (lenC c1).bind fun n3 =>
  (lenC c2).bind fun n4 =>
  cond ((n3 : Int) != (n4 : Int))
  (some ([.one (Cell.bool false)], []))
  (laws_eqStringSS_l0 k m m (c1) (c2) 0)
noncomputable abbrev laws_eqStringSS_l0_B (k m : Nat) : (Ex → Fr → Option Res) → Fr → Option Res := evC G_laws_eqStringSS fi_laws_eqStringSS (evF G_laws_eqStringSS (k + 1)) m (sub [1, 1, 0, 1, 2, 3] fi_laws_eqStringSS.code) none
noncomputable abbrev laws_eqStringSS_l0_K (k m : Nat) : Ex → Fr → Option Res := blockK 0 (seqK (evC G_laws_eqStringSS fi_laws_eqStringSS (evF G_laws_eqStringSS (k + 1)) m (sub [1, 1, 1] fi_laws_eqStringSS.code) none) (retK G_laws_eqStringSS fi_laws_eqStringSS))
theorem laws_eqStringSS_l0_eq (k m : Nat) : ∀ (n : Nat) (c5 : Cell) (c6 : Cell) (i7 : Int), loopK (some [0, 1, 5]) (laws_eqStringSS_l0_B k m) (laws_eqStringSS_l0_K k m) n ⟨fT 27 0 [(0, .av (.one (c5))), (1, .av (.one (c6))), (5, .av (.one (Cell.int i7)))], fX 27 0 [], []⟩ = laws_eqStringSS_l0 (k + 1) m n c5 c6 i7 := by
  intro n
  induction n with
  | zero => intros; rfl
  | succ n ih =>
    intros
    simp only [laws_eqStringSS_l0, ← ih]
    kernel_rfl
theorem laws_eqStringSS_code (k m : Nat) (c1 : Cell) (c2 : Cell) : evC G_laws_eqStringSS fi_laws_eqStringSS (evF G_laws_eqStringSS (k + 1)) m fi_laws_eqStringSS.code none (retK G_laws_eqStringSS fi_laws_eqStringSS) (enter fi_laws_eqStringSS [.one (c1), .one (c2)] []) = laws_eqStringSS (k + 1) m c1 c2 := by
  simp only [laws_eqStringSS, ← laws_eqStringSS_l0_eq k m]
  kernel_rfl
theorem laws_eqStringSS_eq (k : Nat) (c1 : Cell) (c2 : Cell) : evF G_laws_eqStringSS (k + 2) fid_laws_eqStringSS [.one (c1), .one (c2)] [] = laws_eqStringSS (k + 1) (k + 1) c1 c2 :=
  Eq.trans (by kernel_rfl) (laws_eqStringSS_code k (k + 1) c1 c2)
theorem run_laws_eqStringSS_of {c1 : Cell} {c2 : Cell} {r : Res} (k : Nat) (h : laws_eqStringSS (k + 1) (k + 1) c1 c2 = some r) : run_laws_eqStringSS [.one (c1), .one (c2)] [] = some r := lim_of ((laws_eqStringSS_eq k c1 c2).trans h)
noncomputable def pl_laws_eqPlan : List (Nat × Run) := [(fid_laws_eqStringS, run_laws_eqStringS), (fid_laws_eqStringSS, run_laws_eqStringSS)]
noncomputable def G_laws_eqPlan : Ctx := ctx tyTab fiTab pl_laws_eqPlan
noncomputable def run_laws_eqPlan : Run := lim G_laws_eqPlan fid_laws_eqPlan
theorem ok_laws_eqPlan : FnOk Try.prog OkT fid_laws_eqPlan run_laws_eqPlan := lim_ok (l := pl_laws_eqPlan) Try_mix tyTab_ok fiTab_ok okT (.cons ok_laws_eqStringS (.cons ok_laws_eqStringSS .nil)) fid_laws_eqPlan
noncomputable def laws_eqPlan (k m : Nat) (c1 : Cell) (c2 : Cell) (c3 : Cell) (c4 : Cell) : Option Res :=
  (callS run_laws_eqStringS [.one (c1), .one (c3)] []).bind fun r5 =>
  cond (shapeOk rk_laws_eqStringS r5)
  ((cB (cellsAt r5 0) 0).bind fun b6 =>
  cond (!b6)
  (some ([.one (Cell.bool false)], []))
  ((callS run_laws_eqStringSS [.one (c2), .one (c4)] []).bind fun r7 =>
  cond (shapeOk rk_laws_eqStringSS r7)
  ((cB (cellsAt r7 0) 0).bind fun b8 =>
  cond (!b8)
  (some ([.one (Cell.bool false)], []))
  (some ([.one (Cell.bool true)], [])))
  none))
  none
theorem laws_eqPlan_code (k m : Nat) (c1 : Cell) (c2 : Cell) (c3 : Cell) (c4 : Cell) : evC G_laws_eqPlan fi_laws_eqPlan (evF G_laws_eqPlan (k + 1)) m fi_laws_eqPlan.code none (retK G_laws_eqPlan fi_laws_eqPlan) (enter fi_laws_eqPlan [.agg [c1, c2], .agg [c3, c4]] []) = laws_eqPlan (k + 1) m c1 c2 c3 c4 := by
  kernel_rfl
theorem laws_eqPlan_eq (k : Nat) (c1 : Cell) (c2 : Cell) (c3 : Cell) (c4 : Cell) : evF G_laws_eqPlan (k + 2) fid_laws_eqPlan [.agg [c1, c2], .agg [c3, c4]] [] = laws_eqPlan (k + 1) (k + 1) c1 c2 c3 c4 :=
  Eq.trans (by kernel_rfl) (laws_eqPlan_code k (k + 1) c1 c2 c3 c4)
theorem run_laws_eqPlan_of {c1 : Cell} {c2 : Cell} {c3 : Cell} {c4 : Cell} {r : Res} (k : Nat) (h : laws_eqPlan (k + 1) (k + 1) c1 c2 c3 c4 = some r) : run_laws_eqPlan [.agg [c1, c2], .agg [c3, c4]] [] = some r := lim_of ((laws_eqPlan_eq k c1 c2 c3 c4).trans h)
noncomputable def pl_spec_Split : List (Nat × Run) := []
noncomputable def G_spec_Split : Ctx := ctx tyTab fiTab pl_spec_Split
noncomputable def run_spec_Split : Run := lim G_spec_Split fid_spec_Split
theorem ok_spec_Split : FnOk Try.prog OkT fid_spec_Split run_spec_Split := lim_ok (l := pl_spec_Split) Try_mix tyTab_ok fiTab_ok okT .nil fid_spec_Split
noncomputable def spec_Split_l0 (k m : Nat) : Nat → ByteArray → Int → Cell → Int → Int → List Entry → Option Res
  | 0, _, _, _, _, _, _ => none
  | n + 1, s3, i4, c5, i6, i7, H8 =>
    cond (decide (i7 ≤ (s3.size : Int)))
    (cond (i7 == (s3.size : Int))
    ((subS s3 i6 i7).bind fun s9 =>
    (app H8 1 16 (c5) [[Cell.str s9]]).bind fun p10 =>
    spec_Split_l0 k m n s3 i4 (p10.1) (IntKind.i64.wrap (i7 + 1)) (IntKind.i64.wrap (i7 + 1)) p10.2)
    ((bytS s3 i7).bind fun i11 =>
    cond (i11 == i4)
    ((subS s3 i6 i7).bind fun s12 =>
    (app H8 1 16 (c5) [[Cell.str s12]]).bind fun p13 =>
    spec_Split_l0 k m n s3 i4 (p13.1) (IntKind.i64.wrap (i7 + 1)) (IntKind.i64.wrap (i7 + 1)) p13.2)
    (spec_Split_l0 k m n s3 i4 (c5) i6 (IntKind.i64.wrap (i7 + 1)) H8)))
    (some ([.one (c5)], H8))
noncomputable def spec_Split (k m : Nat) (s1 : ByteArray) (i2 : Int) : Option Res :=
  spec_Split_l0 k m m s1 i2 (.lst true 1 []) 0 0 []
noncomputable abbrev spec_Split_l0_B (k m : Nat) : (Ex → Fr → Option Res) → Fr → Option Res := evC G_spec_Split fi_spec_Split (evF G_spec_Split (k + 1)) m (sub [1, 1, 1, 0, 1, 2, 3] fi_spec_Split.code) none
noncomputable abbrev spec_Split_l0_K (k m : Nat) : Ex → Fr → Option Res := blockK 0 (seqK (evC G_spec_Split fi_spec_Split (evF G_spec_Split (k + 1)) m (sub [1, 1, 1, 1] fi_spec_Split.code) none) (retK G_spec_Split fi_spec_Split))
theorem spec_Split_l0_eq (k m : Nat) : ∀ (n : Nat) (s3 : ByteArray) (i4 : Int) (c5 : Cell) (i6 : Int) (i7 : Int) (H8 : List Entry), loopK (some [0, 1, 5, 6, 7]) (spec_Split_l0_B k m) (spec_Split_l0_K k m) n ⟨fT 36 0 [(0, .av (.one (Cell.str s3))), (1, .av (.one (.sc (.int .u8 i4)))), (5, .av (.one (c5))), (6, .av (.one (Cell.int i6))), (7, .av (.one (Cell.int i7)))], fX 36 0 [], H8⟩ = spec_Split_l0 (k + 1) m n s3 i4 c5 i6 i7 H8 := by
  intro n
  induction n with
  | zero => intros; rfl
  | succ n ih =>
    intros
    simp only [spec_Split_l0, ← ih]
    kernel_rfl
theorem spec_Split_code (k m : Nat) (s1 : ByteArray) (i2 : Int) : evC G_spec_Split fi_spec_Split (evF G_spec_Split (k + 1)) m fi_spec_Split.code none (retK G_spec_Split fi_spec_Split) (enter fi_spec_Split [.one (Cell.str s1), .one (.sc (.int .u8 i2))] []) = spec_Split (k + 1) m s1 i2 := by
  simp only [spec_Split, ← spec_Split_l0_eq k m]
  kernel_rfl
theorem spec_Split_eq (k : Nat) (s1 : ByteArray) (i2 : Int) : evF G_spec_Split (k + 2) fid_spec_Split [.one (Cell.str s1), .one (.sc (.int .u8 i2))] [] = spec_Split (k + 1) (k + 1) s1 i2 :=
  Eq.trans (by kernel_rfl) (spec_Split_code k (k + 1) s1 i2)
theorem run_spec_Split_of {s1 : ByteArray} {i2 : Int} {r : Res} (k : Nat) (h : spec_Split (k + 1) (k + 1) s1 i2 = some r) : run_spec_Split [.one (Cell.str s1), .one (.sc (.int .u8 i2))] [] = some r := lim_of ((spec_Split_eq k s1 i2).trans h)
noncomputable def pl_spec_l1In : List (Nat × Run) := []
noncomputable def G_spec_l1In : Ctx := ctx tyTab fiTab pl_spec_l1In
noncomputable def run_spec_l1In : Run := lim G_spec_l1In fid_spec_l1In
theorem ok_spec_l1In : FnOk Try.prog OkT fid_spec_l1In run_spec_l1In := lim_ok (l := pl_spec_l1In) Try_mix tyTab_ok fiTab_ok okT .nil fid_spec_l1In
noncomputable def spec_l1In (k m : Nat) (i1 : Int) (i2 : Int) (i3 : Int) : Option Res :=
  cond (decide (i1 ≥ i2))
  (some ([.one (Cell.bool (decide (i1 ≤ i3)))], []))
  (some ([.one (Cell.bool false)], []))
theorem spec_l1In_code (k m : Nat) (i1 : Int) (i2 : Int) (i3 : Int) : evC G_spec_l1In fi_spec_l1In (evF G_spec_l1In (k + 1)) m fi_spec_l1In.code none (retK G_spec_l1In fi_spec_l1In) (enter fi_spec_l1In [.one (Cell.int i1), .one (Cell.int i2), .one (Cell.int i3)] []) = spec_l1In (k + 1) m i1 i2 i3 := by
  kernel_rfl
theorem spec_l1In_eq (k : Nat) (i1 : Int) (i2 : Int) (i3 : Int) : evF G_spec_l1In (k + 2) fid_spec_l1In [.one (Cell.int i1), .one (Cell.int i2), .one (Cell.int i3)] [] = spec_l1In (k + 1) (k + 1) i1 i2 i3 :=
  Eq.trans (by kernel_rfl) (spec_l1In_code k (k + 1) i1 i2 i3)
theorem run_spec_l1In_of {i1 : Int} {i2 : Int} {i3 : Int} {r : Res} (k : Nat) (h : spec_l1In (k + 1) (k + 1) i1 i2 i3 = some r) : run_spec_l1In [.one (Cell.int i1), .one (Cell.int i2), .one (Cell.int i3)] [] = some r := lim_of ((spec_l1In_eq k i1 i2 i3).trans h)
noncomputable def pl_spec_l1Small : List (Nat × Run) := [(fid_spec_l1In, run_spec_l1In)]
noncomputable def G_spec_l1Small : Ctx := ctx tyTab fiTab pl_spec_l1Small
noncomputable def run_spec_l1Small : Run := lim G_spec_l1Small fid_spec_l1Small
theorem ok_spec_l1Small : FnOk Try.prog OkT fid_spec_l1Small run_spec_l1Small := lim_ok (l := pl_spec_l1Small) Try_mix tyTab_ok fiTab_ok okT (.cons ok_spec_l1In .nil) fid_spec_l1Small
noncomputable def spec_l1Small (k m : Nat) (i1 : Int) : Option Res :=
  (callS run_spec_l1In [.one (Cell.int (IntKind.i64.wrap i1)), .one (Cell.int 97), .one (Cell.int 122)] []).bind fun r2 =>
  cond (shapeOk rk_spec_l1In r2)
  ((cB (cellsAt r2 0) 0).bind fun b3 =>
  some ([.one (Cell.bool b3)], []))
  none
theorem spec_l1Small_code (k m : Nat) (i1 : Int) : evC G_spec_l1Small fi_spec_l1Small (evF G_spec_l1Small (k + 1)) m fi_spec_l1Small.code none (retK G_spec_l1Small fi_spec_l1Small) (enter fi_spec_l1Small [.one (.sc (.int .u8 i1))] []) = spec_l1Small (k + 1) m i1 := by
  kernel_rfl
theorem spec_l1Small_eq (k : Nat) (i1 : Int) : evF G_spec_l1Small (k + 2) fid_spec_l1Small [.one (.sc (.int .u8 i1))] [] = spec_l1Small (k + 1) (k + 1) i1 :=
  Eq.trans (by kernel_rfl) (spec_l1Small_code k (k + 1) i1)
theorem run_spec_l1Small_of {i1 : Int} {r : Res} (k : Nat) (h : spec_l1Small (k + 1) (k + 1) i1 = some r) : run_spec_l1Small [.one (.sc (.int .u8 i1))] [] = some r := lim_of ((spec_l1Small_eq k i1).trans h)
noncomputable def pl_spec_l1Digit : List (Nat × Run) := [(fid_spec_l1In, run_spec_l1In)]
noncomputable def G_spec_l1Digit : Ctx := ctx tyTab fiTab pl_spec_l1Digit
noncomputable def run_spec_l1Digit : Run := lim G_spec_l1Digit fid_spec_l1Digit
theorem ok_spec_l1Digit : FnOk Try.prog OkT fid_spec_l1Digit run_spec_l1Digit := lim_ok (l := pl_spec_l1Digit) Try_mix tyTab_ok fiTab_ok okT (.cons ok_spec_l1In .nil) fid_spec_l1Digit
noncomputable def spec_l1Digit (k m : Nat) (i1 : Int) : Option Res :=
  (callS run_spec_l1In [.one (Cell.int (IntKind.i64.wrap i1)), .one (Cell.int 48), .one (Cell.int 57)] []).bind fun r2 =>
  cond (shapeOk rk_spec_l1In r2)
  ((cB (cellsAt r2 0) 0).bind fun b3 =>
  some ([.one (Cell.bool b3)], []))
  none
theorem spec_l1Digit_code (k m : Nat) (i1 : Int) : evC G_spec_l1Digit fi_spec_l1Digit (evF G_spec_l1Digit (k + 1)) m fi_spec_l1Digit.code none (retK G_spec_l1Digit fi_spec_l1Digit) (enter fi_spec_l1Digit [.one (.sc (.int .u8 i1))] []) = spec_l1Digit (k + 1) m i1 := by
  kernel_rfl
theorem spec_l1Digit_eq (k : Nat) (i1 : Int) : evF G_spec_l1Digit (k + 2) fid_spec_l1Digit [.one (.sc (.int .u8 i1))] [] = spec_l1Digit (k + 1) (k + 1) i1 :=
  Eq.trans (by kernel_rfl) (spec_l1Digit_code k (k + 1) i1)
theorem run_spec_l1Digit_of {i1 : Int} {r : Res} (k : Nat) (h : spec_l1Digit (k + 1) (k + 1) i1 = some r) : run_spec_l1Digit [.one (.sc (.int .u8 i1))] [] = some r := lim_of ((spec_l1Digit_eq k i1).trans h)
noncomputable def pl_spec_NameOk : List (Nat × Run) := [(fid_spec_l1Small, run_spec_l1Small), (fid_spec_l1Digit, run_spec_l1Digit), (fid_spec_l1In, run_spec_l1In)]
noncomputable def G_spec_NameOk : Ctx := ctx tyTab fiTab pl_spec_NameOk
noncomputable def run_spec_NameOk : Run := lim G_spec_NameOk fid_spec_NameOk
theorem ok_spec_NameOk : FnOk Try.prog OkT fid_spec_NameOk run_spec_NameOk := lim_ok (l := pl_spec_NameOk) Try_mix tyTab_ok fiTab_ok okT (.cons ok_spec_l1Small (.cons ok_spec_l1Digit (.cons ok_spec_l1In .nil))) fid_spec_NameOk
noncomputable def spec_NameOk_l0 (k m : Nat) : Nat → ByteArray → Int → Option Res
  | 0, _, _ => none
  | n + 1, s2, i3 =>
    cond (decide (i3 < (s2.size : Int)))
    ((bytS s2 i3).bind fun i4 =>
    (callS run_spec_l1Small [.one (.sc (.int .u8 i4))] []).bind fun r5 =>
    cond (shapeOk rk_spec_l1Small r5)
    ((cB (cellsAt r5 0) 0).bind fun b6 =>
    cond (!b6)
    (cond (i3 == 0)
    (some ([.one (Cell.bool false)], []))
    ((bytS s2 i3).bind fun i7 =>
    (callS run_spec_l1Digit [.one (.sc (.int .u8 i7))] []).bind fun r8 =>
    cond (shapeOk rk_spec_l1Digit r8)
    ((cB (cellsAt r8 0) 0).bind fun b9 =>
    cond (!b9)
    ((bytS s2 i3).bind fun i10 =>
    cond (i10 != 45)
    (some ([.one (Cell.bool false)], []))
    (spec_NameOk_l0 k m n s2 (IntKind.i64.wrap (i3 + 1))))
    (spec_NameOk_l0 k m n s2 (IntKind.i64.wrap (i3 + 1))))
    none))
    (spec_NameOk_l0 k m n s2 (IntKind.i64.wrap (i3 + 1))))
    none)
    ((callS run_spec_l1In [.one (Cell.int (s2.size : Int)), .one (Cell.int 1), .one (Cell.int 10)] []).bind fun r11 =>
    cond (shapeOk rk_spec_l1In r11)
    ((cB (cellsAt r11 0) 0).bind fun b12 =>
    some ([.one (Cell.bool b12)], []))
    none)
noncomputable def spec_NameOk (k m : Nat) (s1 : ByteArray) : Option Res :=
  spec_NameOk_l0 k m m s1 0
noncomputable abbrev spec_NameOk_l0_B (k m : Nat) : (Ex → Fr → Option Res) → Fr → Option Res := evC G_spec_NameOk fi_spec_NameOk (evF G_spec_NameOk (k + 1)) m (sub [1, 0, 1, 2, 3] fi_spec_NameOk.code) none
noncomputable abbrev spec_NameOk_l0_K (k m : Nat) : Ex → Fr → Option Res := blockK 0 (seqK (evC G_spec_NameOk fi_spec_NameOk (evF G_spec_NameOk (k + 1)) m (sub [1, 1] fi_spec_NameOk.code) none) (retK G_spec_NameOk fi_spec_NameOk))
theorem spec_NameOk_l0_eq (k m : Nat) : ∀ (n : Nat) (s2 : ByteArray) (i3 : Int), loopK (some [0, 3]) (spec_NameOk_l0_B k m) (spec_NameOk_l0_K k m) n ⟨fT 35 0 [(0, .av (.one (Cell.str s2))), (3, .av (.one (Cell.int i3)))], fX 35 0 [], []⟩ = spec_NameOk_l0 (k + 1) m n s2 i3 := by
  intro n
  induction n with
  | zero => intros; rfl
  | succ n ih =>
    intros
    simp only [spec_NameOk_l0, ← ih]
    kernel_rfl
theorem spec_NameOk_code (k m : Nat) (s1 : ByteArray) : evC G_spec_NameOk fi_spec_NameOk (evF G_spec_NameOk (k + 1)) m fi_spec_NameOk.code none (retK G_spec_NameOk fi_spec_NameOk) (enter fi_spec_NameOk [.one (Cell.str s1)] []) = spec_NameOk (k + 1) m s1 := by
  simp only [spec_NameOk, ← spec_NameOk_l0_eq k m]
  kernel_rfl
theorem spec_NameOk_eq (k : Nat) (s1 : ByteArray) : evF G_spec_NameOk (k + 2) fid_spec_NameOk [.one (Cell.str s1)] [] = spec_NameOk (k + 1) (k + 1) s1 :=
  Eq.trans (by kernel_rfl) (spec_NameOk_code k (k + 1) s1)
theorem run_spec_NameOk_of {s1 : ByteArray} {r : Res} (k : Nat) (h : spec_NameOk (k + 1) (k + 1) s1 = some r) : run_spec_NameOk [.one (Cell.str s1)] [] = some r := lim_of ((spec_NameOk_eq k s1).trans h)
noncomputable def pl_spec_ParseTask : List (Nat × Run) := [(fid_spec_Split, run_spec_Split), (fid_spec_NameOk, run_spec_NameOk)]
noncomputable def G_spec_ParseTask : Ctx := ctx tyTab fiTab pl_spec_ParseTask
noncomputable def run_spec_ParseTask : Run := lim G_spec_ParseTask fid_spec_ParseTask
theorem ok_spec_ParseTask : FnOk Try.prog OkT fid_spec_ParseTask run_spec_ParseTask := lim_ok (l := pl_spec_ParseTask) Try_mix tyTab_ok fiTab_ok okT (.cons ok_spec_Split (.cons ok_spec_NameOk .nil)) fid_spec_ParseTask
noncomputable def spec_ParseTask (k m : Nat) (s1 : ByteArray) : Option Res :=
  (callL run_spec_Split [.one (Cell.str s1), .one (.sc (.int .u8 35))] []).bind fun r2 =>
  cond (shapeOk rk_spec_Split r2.1)
  ((cC (cellsAt r2.1 0) 0).bind fun c3 =>
  (lenC c3).bind fun n4 =>
  cond ((n4 : Int) != 2)
  (some ([.one (Cell.str (bs [])), .one (Cell.str (bs [])), .one (Cell.bool false)], r2.2))
  ((idxA 1 (c3) 0).bind fun c5 =>
  (deref r2.2 (c5)).bind fun p6 =>
  (cS p6.1 p6.2).bind fun s7 =>
  (callS run_spec_NameOk [.one (Cell.str s7)] r2.2).bind fun r8 =>
  cond (shapeOk rk_spec_NameOk r8)
  ((cB (cellsAt r8 0) 0).bind fun b9 =>
  cond (!b9)
  (some ([.one (Cell.str (bs [])), .one (Cell.str (bs [])), .one (Cell.bool false)], r2.2))
  ((idxA 1 (c3) 1).bind fun c10 =>
  (deref r2.2 (c10)).bind fun p11 =>
  (cS p11.1 p11.2).bind fun s12 =>
  (callS run_spec_NameOk [.one (Cell.str s12)] r2.2).bind fun r13 =>
  cond (shapeOk rk_spec_NameOk r13)
  ((cB (cellsAt r13 0) 0).bind fun b14 =>
  cond (!b14)
  (some ([.one (Cell.str (bs [])), .one (Cell.str (bs [])), .one (Cell.bool false)], r2.2))
  ((idxA 1 (c3) 0).bind fun c15 =>
  (deref r2.2 (c15)).bind fun p16 =>
  (cS p16.1 p16.2).bind fun s17 =>
  (idxA 1 (c3) 1).bind fun c18 =>
  (deref r2.2 (c18)).bind fun p19 =>
  (cS p19.1 p19.2).bind fun s20 =>
  some ([.one (Cell.str s17), .one (Cell.str s20), .one (Cell.bool true)], r2.2)))
  none))
  none))
  none
theorem spec_ParseTask_code (k m : Nat) (s1 : ByteArray) : evC G_spec_ParseTask fi_spec_ParseTask (evF G_spec_ParseTask (k + 1)) m fi_spec_ParseTask.code none (retK G_spec_ParseTask fi_spec_ParseTask) (enter fi_spec_ParseTask [.one (Cell.str s1)] []) = spec_ParseTask (k + 1) m s1 := by
  kernel_rfl
theorem spec_ParseTask_eq (k : Nat) (s1 : ByteArray) : evF G_spec_ParseTask (k + 2) fid_spec_ParseTask [.one (Cell.str s1)] [] = spec_ParseTask (k + 1) (k + 1) s1 :=
  Eq.trans (by kernel_rfl) (spec_ParseTask_code k (k + 1) s1)
theorem run_spec_ParseTask_of {s1 : ByteArray} {r : Res} (k : Nat) (h : spec_ParseTask (k + 1) (k + 1) s1 = some r) : run_spec_ParseTask [.one (Cell.str s1)] [] = some r := lim_of ((spec_ParseTask_eq k s1).trans h)
noncomputable def pl_spec_l7Ascending : List (Nat × Run) := []
noncomputable def G_spec_l7Ascending : Ctx := ctx tyTab fiTab pl_spec_l7Ascending
noncomputable def run_spec_l7Ascending : Run := lim G_spec_l7Ascending fid_spec_l7Ascending
theorem ok_spec_l7Ascending : FnOk Try.prog OkT fid_spec_l7Ascending run_spec_l7Ascending := lim_ok (l := pl_spec_l7Ascending) Try_mix tyTab_ok fiTab_ok okT .nil fid_spec_l7Ascending
noncomputable def spec_l7Ascending_l0 (k m : Nat) : Nat → Cell → Int → Option Res
  | 0, _, _ => none
  | n + 1, c2, i3 =>
    (lenC c2).bind fun n4 =>
    cond (decide (i3 < (n4 : Int)))
    ((idxA 1 (c2) (IntKind.i64.wrap (i3 - 1))).bind fun c5 =>
    (deref [] (c5)).bind fun p6 =>
    (cS p6.1 p6.2).bind fun s7 =>
    (idxA 1 (c2) i3).bind fun c8 =>
    (deref [] (c8)).bind fun p9 =>
    (cS p9.1 p9.2).bind fun s10 =>
    cond (!Op.bytesLess s7.toList s10.toList)
    (some ([.one (Cell.bool false)], []))
    (spec_l7Ascending_l0 k m n (c2) (IntKind.i64.wrap (i3 + 1))))
    (some ([.one (Cell.bool true)], []))
noncomputable def spec_l7Ascending (k m : Nat) (c1 : Cell) : Option Res :=
  spec_l7Ascending_l0 k m m (c1) 1
noncomputable abbrev spec_l7Ascending_l0_B (k m : Nat) : (Ex → Fr → Option Res) → Fr → Option Res := evC G_spec_l7Ascending fi_spec_l7Ascending (evF G_spec_l7Ascending (k + 1)) m (sub [1, 0, 1, 2, 3] fi_spec_l7Ascending.code) none
noncomputable abbrev spec_l7Ascending_l0_K (k m : Nat) : Ex → Fr → Option Res := blockK 0 (seqK (evC G_spec_l7Ascending fi_spec_l7Ascending (evF G_spec_l7Ascending (k + 1)) m (sub [1, 1] fi_spec_l7Ascending.code) none) (retK G_spec_l7Ascending fi_spec_l7Ascending))
theorem spec_l7Ascending_l0_eq (k m : Nat) : ∀ (n : Nat) (c2 : Cell) (i3 : Int), loopK (some [0, 3]) (spec_l7Ascending_l0_B k m) (spec_l7Ascending_l0_K k m) n ⟨fT 20 0 [(0, .av (.one (c2))), (3, .av (.one (Cell.int i3)))], fX 20 0 [], []⟩ = spec_l7Ascending_l0 (k + 1) m n c2 i3 := by
  intro n
  induction n with
  | zero => intros; rfl
  | succ n ih =>
    intros
    simp only [spec_l7Ascending_l0, ← ih]
    kernel_rfl
theorem spec_l7Ascending_code (k m : Nat) (c1 : Cell) : evC G_spec_l7Ascending fi_spec_l7Ascending (evF G_spec_l7Ascending (k + 1)) m fi_spec_l7Ascending.code none (retK G_spec_l7Ascending fi_spec_l7Ascending) (enter fi_spec_l7Ascending [.one (c1)] []) = spec_l7Ascending (k + 1) m c1 := by
  simp only [spec_l7Ascending, ← spec_l7Ascending_l0_eq k m]
  kernel_rfl
theorem spec_l7Ascending_eq (k : Nat) (c1 : Cell) : evF G_spec_l7Ascending (k + 2) fid_spec_l7Ascending [.one (c1)] [] = spec_l7Ascending (k + 1) (k + 1) c1 :=
  Eq.trans (by kernel_rfl) (spec_l7Ascending_code k (k + 1) c1)
theorem run_spec_l7Ascending_of {c1 : Cell} {r : Res} (k : Nat) (h : spec_l7Ascending (k + 1) (k + 1) c1 = some r) : run_spec_l7Ascending [.one (c1)] [] = some r := lim_of ((spec_l7Ascending_eq k c1).trans h)
noncomputable def pl_spec_l1Has : List (Nat × Run) := []
noncomputable def G_spec_l1Has : Ctx := ctx tyTab fiTab pl_spec_l1Has
noncomputable def run_spec_l1Has : Run := lim G_spec_l1Has fid_spec_l1Has
theorem ok_spec_l1Has : FnOk Try.prog OkT fid_spec_l1Has run_spec_l1Has := lim_ok (l := pl_spec_l1Has) Try_mix tyTab_ok fiTab_ok okT .nil fid_spec_l1Has
noncomputable def spec_l1Has_l0 (k m : Nat) : Nat → Cell → ByteArray → Int → Option Res
  | 0, _, _, _ => none
  | n + 1, c3, s4, i5 =>
    (lenC c3).bind fun n6 =>
    cond (decide (i5 < (n6 : Int)))
    ((idxA 1 (c3) i5).bind fun c7 =>
    (deref [] (c7)).bind fun p8 =>
    (cS p8.1 p8.2).bind fun s9 =>
    cond (s9.toList == s4.toList)
    (some ([.one (Cell.bool true)], []))
    (spec_l1Has_l0 k m n (c3) s4 (IntKind.i64.wrap (i5 + 1))))
    (some ([.one (Cell.bool false)], []))
noncomputable def spec_l1Has (k m : Nat) (c1 : Cell) (s2 : ByteArray) : Option Res :=
  spec_l1Has_l0 k m m (c1) s2 0
noncomputable abbrev spec_l1Has_l0_B (k m : Nat) : (Ex → Fr → Option Res) → Fr → Option Res := evC G_spec_l1Has fi_spec_l1Has (evF G_spec_l1Has (k + 1)) m (sub [1, 0, 1, 2, 3] fi_spec_l1Has.code) none
noncomputable abbrev spec_l1Has_l0_K (k m : Nat) : Ex → Fr → Option Res := blockK 0 (seqK (evC G_spec_l1Has fi_spec_l1Has (evF G_spec_l1Has (k + 1)) m (sub [1, 1] fi_spec_l1Has.code) none) (retK G_spec_l1Has fi_spec_l1Has))
theorem spec_l1Has_l0_eq (k m : Nat) : ∀ (n : Nat) (c3 : Cell) (s4 : ByteArray) (i5 : Int), loopK (some [0, 1, 5]) (spec_l1Has_l0_B k m) (spec_l1Has_l0_K k m) n ⟨fT 18 0 [(0, .av (.one (c3))), (1, .av (.one (Cell.str s4))), (5, .av (.one (Cell.int i5)))], fX 18 0 [], []⟩ = spec_l1Has_l0 (k + 1) m n c3 s4 i5 := by
  intro n
  induction n with
  | zero => intros; rfl
  | succ n ih =>
    intros
    simp only [spec_l1Has_l0, ← ih]
    kernel_rfl
theorem spec_l1Has_code (k m : Nat) (c1 : Cell) (s2 : ByteArray) : evC G_spec_l1Has fi_spec_l1Has (evF G_spec_l1Has (k + 1)) m fi_spec_l1Has.code none (retK G_spec_l1Has fi_spec_l1Has) (enter fi_spec_l1Has [.one (c1), .one (Cell.str s2)] []) = spec_l1Has (k + 1) m c1 s2 := by
  simp only [spec_l1Has, ← spec_l1Has_l0_eq k m]
  kernel_rfl
theorem spec_l1Has_eq (k : Nat) (c1 : Cell) (s2 : ByteArray) : evF G_spec_l1Has (k + 2) fid_spec_l1Has [.one (c1), .one (Cell.str s2)] [] = spec_l1Has (k + 1) (k + 1) c1 s2 :=
  Eq.trans (by kernel_rfl) (spec_l1Has_code k (k + 1) c1 s2)
theorem run_spec_l1Has_of {c1 : Cell} {s2 : ByteArray} {r : Res} (k : Nat) (h : spec_l1Has (k + 1) (k + 1) c1 s2 = some r) : run_spec_l1Has [.one (c1), .one (Cell.str s2)] [] = some r := lim_of ((spec_l1Has_eq k c1 s2).trans h)
noncomputable def pl_spec_PlanOk : List (Nat × Run) := [(fid_spec_ParseTask, run_spec_ParseTask), (fid_spec_l7Ascending, run_spec_l7Ascending), (fid_spec_l1Has, run_spec_l1Has)]
noncomputable def G_spec_PlanOk : Ctx := ctx tyTab fiTab pl_spec_PlanOk
noncomputable def run_spec_PlanOk : Run := lim G_spec_PlanOk fid_spec_PlanOk
theorem ok_spec_PlanOk : FnOk Try.prog OkT fid_spec_PlanOk run_spec_PlanOk := lim_ok (l := pl_spec_PlanOk) Try_mix tyTab_ok fiTab_ok okT (.cons ok_spec_ParseTask (.cons ok_spec_l7Ascending (.cons ok_spec_l1Has .nil))) fid_spec_PlanOk
noncomputable def spec_PlanOk_l1 (k m : Nat) (b_l0 : Int → Cell → Cell → Option Res) : Nat → Int → Int → Cell → Cell → Option Res
  | 0, _, _, _, _ => none
  | n + 1, i28, i29, c30, c31 =>
    (idxA 1 (c31) i28).bind fun c32 =>
    (deref [] (c32)).bind fun p33 =>
    (cC p33.1 p33.2).bind fun c34 =>
    (lenC c34).bind fun n35 =>
    cond (decide (i29 < (n35 : Int)))
    ((idxA 1 (c31) i28).bind fun c36 =>
    (deref [] (c36)).bind fun p37 =>
    (cC p37.1 p37.2).bind fun c38 =>
    (idxA 1 (c38) i29).bind fun c39 =>
    (deref [] (c39)).bind fun p40 =>
    (cS p40.1 p40.2).bind fun s41 =>
    (callS run_spec_l1Has [.one (c30), .one (Cell.str s41)] []).bind fun r42 =>
    cond (shapeOk rk_spec_l1Has r42)
    ((cB (cellsAt r42 0) 0).bind fun b43 =>
    cond (!b43)
    (some ([.one (Cell.bool false)], []))
    (spec_PlanOk_l1 k m b_l0 n i28 (IntKind.i64.wrap (i29 + 1)) (c30) (c31)))
    none)
    (b_l0 (IntKind.i64.wrap (i28 + 1)) (c30) (c31))
noncomputable def spec_PlanOk_l0 (k m : Nat) : Nat → Int → Cell → Cell → Option Res
  | 0, _, _, _ => none
  | n + 1, i6, c7, c8 =>
    (lenC c7).bind fun n9 =>
    cond (decide (i6 < (n9 : Int)))
    ((idxA 1 (c8) i6).bind fun c10 =>
    (deref [] (c10)).bind fun p11 =>
    (cC p11.1 p11.2).bind fun c12 =>
    (callS run_spec_l7Ascending [.one (c12)] []).bind fun r13 =>
    cond (shapeOk rk_spec_l7Ascending r13)
    ((cB (cellsAt r13 0) 0).bind fun b14 =>
    cond (!b14)
    (some ([.one (Cell.bool false)], []))
    (cond (decide (i6 > 0))
    ((idxA 1 (c7) (IntKind.i64.wrap (i6 - 1))).bind fun c15 =>
    (deref [] (c15)).bind fun p16 =>
    (cS p16.1 p16.2).bind fun s17 =>
    (idxA 1 (c7) i6).bind fun c18 =>
    (deref [] (c18)).bind fun p19 =>
    (cS p19.1 p19.2).bind fun s20 =>
    cond (!Op.bytesLess s17.toList s20.toList)
    (some ([.one (Cell.bool false)], []))
    ((idxA 1 (c7) i6).bind fun c21 =>
    (deref [] (c21)).bind fun p22 =>
    (cS p22.1 p22.2).bind fun s23 =>
    (callS run_spec_ParseTask [.one (Cell.str s23)] []).bind fun r24 =>
    cond (shapeOk rk_spec_ParseTask r24)
    ((cS (cellsAt r24 0) 0).bind fun s25 =>
    (cS (cellsAt r24 1) 0).bind fun s26 =>
    (cB (cellsAt r24 2) 0).bind fun b27 =>
    cond (!b27)
    (some ([.one (Cell.bool false)], []))
    (spec_PlanOk_l1 k m (spec_PlanOk_l0 k m n) m i6 0 (c7) (c8)))
    none))
    ((idxA 1 (c7) i6).bind fun c44 =>
    (deref [] (c44)).bind fun p45 =>
    (cS p45.1 p45.2).bind fun s46 =>
    (callS run_spec_ParseTask [.one (Cell.str s46)] []).bind fun r47 =>
    cond (shapeOk rk_spec_ParseTask r47)
    ((cS (cellsAt r47 0) 0).bind fun s48 =>
    (cS (cellsAt r47 1) 0).bind fun s49 =>
    (cB (cellsAt r47 2) 0).bind fun b50 =>
    cond (!b50)
    (some ([.one (Cell.bool false)], []))
    (spec_PlanOk_l1 k m (spec_PlanOk_l0 k m n) m i6 0 (c7) (c8)))
    none)))
    none)
    (some ([.one (Cell.bool true)], []))
noncomputable def spec_PlanOk (k m : Nat) (c1 : Cell) (c2 : Cell) : Option Res :=
  (lenC c1).bind fun n3 =>
  (lenC c2).bind fun n4 =>
  cond ((n3 : Int) != (n4 : Int))
  (some ([.one (Cell.bool false)], []))
  ((lenC c1).bind fun n5 =>
  cond (decide ((n5 : Int) > 16))
  (some ([.one (Cell.bool false)], []))
  (spec_PlanOk_l0 k m m 0 (c1) (c2)))
noncomputable abbrev spec_PlanOk_l0_B (k m : Nat) : (Ex → Fr → Option Res) → Fr → Option Res := evC G_spec_PlanOk fi_spec_PlanOk (evF G_spec_PlanOk (k + 1)) m (sub [1, 1, 0, 1, 2, 3] fi_spec_PlanOk.code) none
noncomputable abbrev spec_PlanOk_l0_K (k m : Nat) : Ex → Fr → Option Res := blockK 0 (seqK (evC G_spec_PlanOk fi_spec_PlanOk (evF G_spec_PlanOk (k + 1)) m (sub [1, 1, 1] fi_spec_PlanOk.code) none) (retK G_spec_PlanOk fi_spec_PlanOk))
noncomputable abbrev spec_PlanOk_l1_B (k m : Nat) : (Ex → Fr → Option Res) → Fr → Option Res := evC G_spec_PlanOk fi_spec_PlanOk (evF G_spec_PlanOk (k + 1)) m (sub [1, 1, 0, 1, 2, 3, 1, 0, 2, 1, 1, 1, 1, 2, 3] fi_spec_PlanOk.code) none
noncomputable abbrev spec_PlanOk_l1_K (k m : Nat) (n_l0 : Nat) : Ex → Fr → Option Res := blockK 2 (blockK 1 (seqK (evC G_spec_PlanOk fi_spec_PlanOk (evF G_spec_PlanOk (k + 1)) m (sub [1, 1, 0, 1, 2, 3, 1, 1] fi_spec_PlanOk.code) none) (loopE (fun s => loopK (some [1, 3]) (spec_PlanOk_l0_B k m) (spec_PlanOk_l0_K k m) n_l0 (keepS (some [1, 3]) s)) (spec_PlanOk_l0_K k m))))
theorem spec_PlanOk_l1_eq (k m : Nat) (b_l0 : Int → Cell → Cell → Option Res) (n_l0 : Nat) (h_l0 : ∀ (i6 : Int) (c7 : Cell) (c8 : Cell), loopK (some [1, 3]) (spec_PlanOk_l0_B k m) (spec_PlanOk_l0_K k m) n_l0 ⟨fT 87 0 [(1, .loc 1 0), (3, .av (.one (Cell.int i6)))], fX 87 0 [(1, [c7, c8])], []⟩ = b_l0 i6 c7 c8) : ∀ (n : Nat) (i28 : Int) (i29 : Int) (c30 : Cell) (c31 : Cell), loopK (some [1, 3, 7]) (spec_PlanOk_l1_B k m) (spec_PlanOk_l1_K k m n_l0) n ⟨fT 87 0 [(1, .loc 1 0), (3, .av (.one (Cell.int i28))), (7, .av (.one (Cell.int i29)))], fX 87 0 [(1, [c30, c31])], []⟩ = spec_PlanOk_l1 (k + 1) m b_l0 n i28 i29 c30 c31 := by
  intro n
  induction n with
  | zero => intros; rfl
  | succ n ih =>
    intros
    simp only [spec_PlanOk_l1, ← h_l0, ← ih]
    kernel_rfl
theorem spec_PlanOk_l0_eq (k m : Nat) : ∀ (n : Nat) (i6 : Int) (c7 : Cell) (c8 : Cell), loopK (some [1, 3]) (spec_PlanOk_l0_B k m) (spec_PlanOk_l0_K k m) n ⟨fT 87 0 [(1, .loc 1 0), (3, .av (.one (Cell.int i6)))], fX 87 0 [(1, [c7, c8])], []⟩ = spec_PlanOk_l0 (k + 1) m n i6 c7 c8 := by
  intro n
  induction n with
  | zero => intros; rfl
  | succ n ih =>
    intros
    simp only [spec_PlanOk_l0, ← spec_PlanOk_l1_eq k m _ _ (ih)]
    kernel_rfl
theorem spec_PlanOk_code (k m : Nat) (c1 : Cell) (c2 : Cell) : evC G_spec_PlanOk fi_spec_PlanOk (evF G_spec_PlanOk (k + 1)) m fi_spec_PlanOk.code none (retK G_spec_PlanOk fi_spec_PlanOk) (enter fi_spec_PlanOk [.agg [c1, c2]] []) = spec_PlanOk (k + 1) m c1 c2 := by
  simp only [spec_PlanOk, ← spec_PlanOk_l0_eq k m]
  kernel_rfl
theorem spec_PlanOk_eq (k : Nat) (c1 : Cell) (c2 : Cell) : evF G_spec_PlanOk (k + 2) fid_spec_PlanOk [.agg [c1, c2]] [] = spec_PlanOk (k + 1) (k + 1) c1 c2 :=
  Eq.trans (by kernel_rfl) (spec_PlanOk_code k (k + 1) c1 c2)
theorem run_spec_PlanOk_of {c1 : Cell} {c2 : Cell} {r : Res} (k : Nat) (h : spec_PlanOk (k + 1) (k + 1) c1 c2 = some r) : run_spec_PlanOk [.agg [c1, c2]] [] = some r := lim_of ((spec_PlanOk_eq k c1 c2).trans h)
noncomputable def pl_impl_isAscending : List (Nat × Run) := []
noncomputable def G_impl_isAscending : Ctx := ctx tyTab fiTab pl_impl_isAscending
noncomputable def run_impl_isAscending : Run := lim G_impl_isAscending fid_impl_isAscending
theorem ok_impl_isAscending : FnOk Try.prog OkT fid_impl_isAscending run_impl_isAscending := lim_ok (l := pl_impl_isAscending) Try_mix tyTab_ok fiTab_ok okT .nil fid_impl_isAscending
noncomputable def impl_isAscending_l0 (k m : Nat) : Nat → Cell → Int → Option Res
  | 0, _, _ => none
  | n + 1, c2, i3 =>
    (lenC c2).bind fun n4 =>
    cond (decide (i3 < (n4 : Int)))
    ((idxA 1 (c2) i3).bind fun c5 =>
    (deref [] (c5)).bind fun p6 =>
    (cS p6.1 p6.2).bind fun s7 =>
    (idxA 1 (c2) (IntKind.i64.wrap (i3 - 1))).bind fun c8 =>
    (deref [] (c8)).bind fun p9 =>
    (cS p9.1 p9.2).bind fun s10 =>
    cond (Op.bytesLess s7.toList s10.toList || s7.toList == s10.toList)
    (some ([.one (Cell.bool false)], []))
    (impl_isAscending_l0 k m n (c2) (IntKind.i64.wrap (i3 + 1))))
    (some ([.one (Cell.bool true)], []))
noncomputable def impl_isAscending (k m : Nat) (c1 : Cell) : Option Res :=
  impl_isAscending_l0 k m m (c1) 1
noncomputable abbrev impl_isAscending_l0_B (k m : Nat) : (Ex → Fr → Option Res) → Fr → Option Res := evC G_impl_isAscending fi_impl_isAscending (evF G_impl_isAscending (k + 1)) m (sub [1, 0, 1, 2, 3] fi_impl_isAscending.code) none
noncomputable abbrev impl_isAscending_l0_K (k m : Nat) : Ex → Fr → Option Res := blockK 0 (seqK (evC G_impl_isAscending fi_impl_isAscending (evF G_impl_isAscending (k + 1)) m (sub [1, 1] fi_impl_isAscending.code) none) (retK G_impl_isAscending fi_impl_isAscending))
theorem impl_isAscending_l0_eq (k m : Nat) : ∀ (n : Nat) (c2 : Cell) (i3 : Int), loopK (some [0, 3]) (impl_isAscending_l0_B k m) (impl_isAscending_l0_K k m) n ⟨fT 20 0 [(0, .av (.one (c2))), (3, .av (.one (Cell.int i3)))], fX 20 0 [], []⟩ = impl_isAscending_l0 (k + 1) m n c2 i3 := by
  intro n
  induction n with
  | zero => intros; rfl
  | succ n ih =>
    intros
    simp only [impl_isAscending_l0, ← ih]
    kernel_rfl
theorem impl_isAscending_code (k m : Nat) (c1 : Cell) : evC G_impl_isAscending fi_impl_isAscending (evF G_impl_isAscending (k + 1)) m fi_impl_isAscending.code none (retK G_impl_isAscending fi_impl_isAscending) (enter fi_impl_isAscending [.one (c1)] []) = impl_isAscending (k + 1) m c1 := by
  simp only [impl_isAscending, ← impl_isAscending_l0_eq k m]
  kernel_rfl
theorem impl_isAscending_eq (k : Nat) (c1 : Cell) : evF G_impl_isAscending (k + 2) fid_impl_isAscending [.one (c1)] [] = impl_isAscending (k + 1) (k + 1) c1 :=
  Eq.trans (by kernel_rfl) (impl_isAscending_code k (k + 1) c1)
theorem run_impl_isAscending_of {c1 : Cell} {r : Res} (k : Nat) (h : impl_isAscending (k + 1) (k + 1) c1 = some r) : run_impl_isAscending [.one (c1)] [] = some r := lim_of ((impl_isAscending_eq k c1).trans h)
noncomputable def pl_internal_bytealg_Cutover : List (Nat × Run) := []
noncomputable def G_internal_bytealg_Cutover : Ctx := ctx tyTab fiTab pl_internal_bytealg_Cutover
noncomputable def run_internal_bytealg_Cutover : Run := lim G_internal_bytealg_Cutover fid_internal_bytealg_Cutover
theorem ok_internal_bytealg_Cutover : FnOk Try.prog OkT fid_internal_bytealg_Cutover run_internal_bytealg_Cutover := lim_ok (l := pl_internal_bytealg_Cutover) Try_mix tyTab_ok fiTab_ok okT .nil fid_internal_bytealg_Cutover
noncomputable def internal_bytealg_Cutover (k m : Nat) (i1 : Int) : Option Res :=
  some ([.one (Cell.int (IntKind.i64.wrap ((IntKind.i64.wrap (i1 + 16)).tdiv 8)))], [])
theorem internal_bytealg_Cutover_code (k m : Nat) (i1 : Int) : evC G_internal_bytealg_Cutover fi_internal_bytealg_Cutover (evF G_internal_bytealg_Cutover (k + 1)) m fi_internal_bytealg_Cutover.code none (retK G_internal_bytealg_Cutover fi_internal_bytealg_Cutover) (enter fi_internal_bytealg_Cutover [.one (Cell.int i1)] []) = internal_bytealg_Cutover (k + 1) m i1 := by
  kernel_rfl
theorem internal_bytealg_Cutover_eq (k : Nat) (i1 : Int) : evF G_internal_bytealg_Cutover (k + 2) fid_internal_bytealg_Cutover [.one (Cell.int i1)] [] = internal_bytealg_Cutover (k + 1) (k + 1) i1 :=
  Eq.trans (by kernel_rfl) (internal_bytealg_Cutover_code k (k + 1) i1)
theorem run_internal_bytealg_Cutover_of {i1 : Int} {r : Res} (k : Nat) (h : internal_bytealg_Cutover (k + 1) (k + 1) i1 = some r) : run_internal_bytealg_Cutover [.one (Cell.int i1)] [] = some r := lim_of ((internal_bytealg_Cutover_eq k i1).trans h)
end Go.Ev
