/- What the evaluator says of the functions, each as a Lean function over cells. Printed by a program of this claim. Conditions: none. -/
import Derived.Test.YtkpiaalieeacgaaEvPr
import Derived.KernelRfl
namespace Go.Ev
open Go Go.Proofs
set_option maxRecDepth 100000
set_option linter.unusedVariables false
set_option linter.unusedSimpArgs false
noncomputable def pl_laws_szStringS : List (Nat × Run) := []
noncomputable def G_laws_szStringS : Ctx := ctx tyTab fiTab pl_laws_szStringS
noncomputable def run_laws_szStringS : Run := lim G_laws_szStringS fid_laws_szStringS
theorem ok_laws_szStringS : FnOk Try.prog OkT fid_laws_szStringS run_laws_szStringS := lim_ok (l := pl_laws_szStringS) Try_mix tyTab_ok fiTab_ok okT .nil fid_laws_szStringS
noncomputable def laws_szStringS_l0 (k m : Nat) : Nat → Cell → Int → Int → Option Res
  | 0, _, _, _ => none
  | n + 1, c4, i5, i6 =>
    (lenC c4).bind fun n7 =>
    cond (decide (i6 < (n7 : Int)))
    ((idxA 1 (c4) i6).bind fun c8 =>
    (deref [] (c8)).bind fun p9 =>
    (cS p9.1 p9.2).bind fun s10 =>
    cond (decide ((IntKind.i64.wrap (i5 - (s10.size : Int))) < 0))
    (some ([.one (Cell.int (-1))], []))
    (laws_szStringS_l0 k m n (c4) (IntKind.i64.wrap (i5 - (s10.size : Int))) (IntKind.i64.wrap (i6 + 1))))
    (some ([.one (Cell.int i5)], []))
noncomputable def laws_szStringS (k m : Nat) (c1 : Cell) (i2 : Int) : Option Res :=
  (lenC c1).bind fun n3 =>
  cond (decide ((IntKind.i64.wrap (i2 - (n3 : Int))) < 0))
  (some ([.one (Cell.int (-1))], []))
  (laws_szStringS_l0 k m m (c1) (IntKind.i64.wrap (i2 - (n3 : Int))) 0)
noncomputable abbrev laws_szStringS_l0_B (k m : Nat) : (Ex → Fr → Option Res) → Fr → Option Res := evC G_laws_szStringS fi_laws_szStringS (evF G_laws_szStringS (k + 1)) m (sub [1, 1, 1, 0, 1, 2, 3] fi_laws_szStringS.code) none
noncomputable abbrev laws_szStringS_l0_K (k m : Nat) : Ex → Fr → Option Res := blockK 0 (seqK (evC G_laws_szStringS fi_laws_szStringS (evF G_laws_szStringS (k + 1)) m (sub [1, 1, 1, 1] fi_laws_szStringS.code) none) (retK G_laws_szStringS fi_laws_szStringS))
theorem laws_szStringS_l0_eq (k m : Nat) : ∀ (n : Nat) (c4 : Cell) (i5 : Int) (i6 : Int), loopK (some [0, 1, 5]) (laws_szStringS_l0_B k m) (laws_szStringS_l0_K k m) n ⟨fT 28 0 [(0, .av (.one (c4))), (1, .av (.one (Cell.int i5))), (5, .av (.one (Cell.int i6)))], fX 28 0 [], []⟩ = laws_szStringS_l0 (k + 1) m n c4 i5 i6 := by
  intro n
  induction n with
  | zero => intros; rfl
  | succ n ih =>
    intros
    simp only [laws_szStringS_l0, ← ih]
    kernel_rfl
theorem laws_szStringS_code (k m : Nat) (c1 : Cell) (i2 : Int) : evC G_laws_szStringS fi_laws_szStringS (evF G_laws_szStringS (k + 1)) m fi_laws_szStringS.code none (retK G_laws_szStringS fi_laws_szStringS) (enter fi_laws_szStringS [.one (c1), .one (Cell.int i2)] []) = laws_szStringS (k + 1) m c1 i2 := by
  simp only [laws_szStringS, ← laws_szStringS_l0_eq k m]
  kernel_rfl
theorem laws_szStringS_eq (k : Nat) (c1 : Cell) (i2 : Int) : evF G_laws_szStringS (k + 2) fid_laws_szStringS [.one (c1), .one (Cell.int i2)] [] = laws_szStringS (k + 1) (k + 1) c1 i2 :=
  Eq.trans (by kernel_rfl) (laws_szStringS_code k (k + 1) c1 i2)
theorem run_laws_szStringS_of {c1 : Cell} {i2 : Int} {r : Res} (k : Nat) (h : laws_szStringS (k + 1) (k + 1) c1 i2 = some r) : run_laws_szStringS [.one (c1), .one (Cell.int i2)] [] = some r := lim_of ((laws_szStringS_eq k c1 i2).trans h)
noncomputable def pl_laws_szRule : List (Nat × Run) := [(fid_laws_szStringS, run_laws_szStringS)]
noncomputable def G_laws_szRule : Ctx := ctx tyTab fiTab pl_laws_szRule
noncomputable def run_laws_szRule : Run := lim G_laws_szRule fid_laws_szRule
theorem ok_laws_szRule : FnOk Try.prog OkT fid_laws_szRule run_laws_szRule := lim_ok (l := pl_laws_szRule) Try_mix tyTab_ok fiTab_ok okT (.cons ok_laws_szStringS .nil) fid_laws_szRule
noncomputable def laws_szRule (k m : Nat) (s1 : ByteArray) (c2 : Cell) (c3 : Cell) (c4 : Cell) (b5 : Bool) (i6 : Int) : Option Res :=
  cond (decide ((IntKind.i64.wrap (i6 - (s1.size : Int))) < 0))
  (some ([.one (Cell.int (-1))], []))
  ((callS run_laws_szStringS [.one (c2), .one (Cell.int (IntKind.i64.wrap (i6 - (s1.size : Int))))] []).bind fun r7 =>
  cond (shapeOk rk_laws_szStringS r7)
  ((cI .i64 (cellsAt r7 0) 0).bind fun i8 =>
  cond (decide (i8 < 0))
  (some ([.one (Cell.int (-1))], []))
  ((callS run_laws_szStringS [.one (c3), .one (Cell.int i8)] []).bind fun r9 =>
  cond (shapeOk rk_laws_szStringS r9)
  ((cI .i64 (cellsAt r9 0) 0).bind fun i10 =>
  cond (decide (i10 < 0))
  (some ([.one (Cell.int (-1))], []))
  ((callS run_laws_szStringS [.one (c4), .one (Cell.int i10)] []).bind fun r11 =>
  cond (shapeOk rk_laws_szStringS r11)
  ((cI .i64 (cellsAt r11 0) 0).bind fun i12 =>
  cond (decide (i12 < 0))
  (some ([.one (Cell.int (-1))], []))
  (some ([.one (Cell.int i12)], [])))
  none))
  none))
  none)
theorem laws_szRule_code (k m : Nat) (s1 : ByteArray) (c2 : Cell) (c3 : Cell) (c4 : Cell) (b5 : Bool) (i6 : Int) : evC G_laws_szRule fi_laws_szRule (evF G_laws_szRule (k + 1)) m fi_laws_szRule.code none (retK G_laws_szRule fi_laws_szRule) (enter fi_laws_szRule [.agg [Cell.str s1, c2, c3, c4, Cell.bool b5], .one (Cell.int i6)] []) = laws_szRule (k + 1) m s1 c2 c3 c4 b5 i6 := by
  kernel_rfl
theorem laws_szRule_eq (k : Nat) (s1 : ByteArray) (c2 : Cell) (c3 : Cell) (c4 : Cell) (b5 : Bool) (i6 : Int) : evF G_laws_szRule (k + 2) fid_laws_szRule [.agg [Cell.str s1, c2, c3, c4, Cell.bool b5], .one (Cell.int i6)] [] = laws_szRule (k + 1) (k + 1) s1 c2 c3 c4 b5 i6 :=
  Eq.trans (by kernel_rfl) (laws_szRule_code k (k + 1) s1 c2 c3 c4 b5 i6)
theorem run_laws_szRule_of {s1 : ByteArray} {c2 : Cell} {c3 : Cell} {c4 : Cell} {b5 : Bool} {i6 : Int} {r : Res} (k : Nat) (h : laws_szRule (k + 1) (k + 1) s1 c2 c3 c4 b5 i6 = some r) : run_laws_szRule [.agg [Cell.str s1, c2, c3, c4, Cell.bool b5], .one (Cell.int i6)] [] = some r := lim_of ((laws_szRule_eq k s1 c2 c3 c4 b5 i6).trans h)
noncomputable def pl_laws_szRuleS : List (Nat × Run) := [(fid_laws_szRule, run_laws_szRule)]
noncomputable def G_laws_szRuleS : Ctx := ctx tyTab fiTab pl_laws_szRuleS
noncomputable def run_laws_szRuleS : Run := lim G_laws_szRuleS fid_laws_szRuleS
theorem ok_laws_szRuleS : FnOk Try.prog OkT fid_laws_szRuleS run_laws_szRuleS := lim_ok (l := pl_laws_szRuleS) Try_mix tyTab_ok fiTab_ok okT (.cons ok_laws_szRule .nil) fid_laws_szRuleS
noncomputable def laws_szRuleS_l0 (k m : Nat) : Nat → Cell → Int → Int → Option Res
  | 0, _, _, _ => none
  | n + 1, c4, i5, i6 =>
    (lenC c4).bind fun n7 =>
    cond (decide (i6 < (n7 : Int)))
    ((idxA 5 (c4) i6).bind fun c8 =>
    (deref [] (c8)).bind fun p9 =>
    (cS p9.1 p9.2).bind fun s10 =>
    (cC p9.1 (p9.2 + 1)).bind fun c11 =>
    (cC p9.1 ((p9.2 + 1) + 1)).bind fun c12 =>
    (cC p9.1 (((p9.2 + 1) + 1) + 1)).bind fun c13 =>
    (cB p9.1 ((((p9.2 + 1) + 1) + 1) + 1)).bind fun b14 =>
    (callS run_laws_szRule [.agg [Cell.str s10, c11, c12, c13, Cell.bool b14], .one (Cell.int i5)] []).bind fun r15 =>
    cond (shapeOk rk_laws_szRule r15)
    ((cI .i64 (cellsAt r15 0) 0).bind fun i16 =>
    cond (decide (i16 < 0))
    (some ([.one (Cell.int (-1))], []))
    (laws_szRuleS_l0 k m n (c4) i16 (IntKind.i64.wrap (i6 + 1))))
    none)
    (some ([.one (Cell.int i5)], []))
noncomputable def laws_szRuleS (k m : Nat) (c1 : Cell) (i2 : Int) : Option Res :=
  (lenC c1).bind fun n3 =>
  cond (decide ((IntKind.i64.wrap (i2 - (n3 : Int))) < 0))
  (some ([.one (Cell.int (-1))], []))
  (laws_szRuleS_l0 k m m (c1) (IntKind.i64.wrap (i2 - (n3 : Int))) 0)
noncomputable abbrev laws_szRuleS_l0_B (k m : Nat) : (Ex → Fr → Option Res) → Fr → Option Res := evC G_laws_szRuleS fi_laws_szRuleS (evF G_laws_szRuleS (k + 1)) m (sub [1, 1, 1, 0, 1, 2, 3] fi_laws_szRuleS.code) none
noncomputable abbrev laws_szRuleS_l0_K (k m : Nat) : Ex → Fr → Option Res := blockK 0 (seqK (evC G_laws_szRuleS fi_laws_szRuleS (evF G_laws_szRuleS (k + 1)) m (sub [1, 1, 1, 1] fi_laws_szRuleS.code) none) (retK G_laws_szRuleS fi_laws_szRuleS))
theorem laws_szRuleS_l0_eq (k m : Nat) : ∀ (n : Nat) (c4 : Cell) (i5 : Int) (i6 : Int), loopK (some [0, 1, 5]) (laws_szRuleS_l0_B k m) (laws_szRuleS_l0_K k m) n ⟨fT 27 0 [(0, .av (.one (c4))), (1, .av (.one (Cell.int i5))), (5, .av (.one (Cell.int i6)))], fX 27 0 [], []⟩ = laws_szRuleS_l0 (k + 1) m n c4 i5 i6 := by
  intro n
  induction n with
  | zero => intros; rfl
  | succ n ih =>
    intros
    simp only [laws_szRuleS_l0, ← ih]
    kernel_rfl
theorem laws_szRuleS_code (k m : Nat) (c1 : Cell) (i2 : Int) : evC G_laws_szRuleS fi_laws_szRuleS (evF G_laws_szRuleS (k + 1)) m fi_laws_szRuleS.code none (retK G_laws_szRuleS fi_laws_szRuleS) (enter fi_laws_szRuleS [.one (c1), .one (Cell.int i2)] []) = laws_szRuleS (k + 1) m c1 i2 := by
  simp only [laws_szRuleS, ← laws_szRuleS_l0_eq k m]
  kernel_rfl
theorem laws_szRuleS_eq (k : Nat) (c1 : Cell) (i2 : Int) : evF G_laws_szRuleS (k + 2) fid_laws_szRuleS [.one (c1), .one (Cell.int i2)] [] = laws_szRuleS (k + 1) (k + 1) c1 i2 :=
  Eq.trans (by kernel_rfl) (laws_szRuleS_code k (k + 1) c1 i2)
theorem run_laws_szRuleS_of {c1 : Cell} {i2 : Int} {r : Res} (k : Nat) (h : laws_szRuleS (k + 1) (k + 1) c1 i2 = some r) : run_laws_szRuleS [.one (c1), .one (Cell.int i2)] [] = some r := lim_of ((laws_szRuleS_eq k c1 i2).trans h)
noncomputable def pl_spec_l12Copy : List (Nat × Run) := []
noncomputable def G_spec_l12Copy : Ctx := ctx tyTab fiTab pl_spec_l12Copy
noncomputable def run_spec_l12Copy : Run := lim G_spec_l12Copy fid_spec_l12Copy
theorem ok_spec_l12Copy : FnOk Try.prog OkT fid_spec_l12Copy run_spec_l12Copy := lim_ok (l := pl_spec_l12Copy) Try_mix tyTab_ok fiTab_ok okT .nil fid_spec_l12Copy
noncomputable def spec_l12Copy (k m : Nat) (s1 : ByteArray) (c2 : Cell) (c3 : Cell) (c4 : Cell) (b5 : Bool) : Option Res :=
  (srcRows [] 1 c2).bind fun r6 =>
  (app [] 1 16 (.lst true 1 []) r6).bind fun p7 =>
  (srcRows p7.2 1 c3).bind fun r8 =>
  (app p7.2 1 16 (.lst true 1 []) r8).bind fun p9 =>
  (srcRows p9.2 1 c4).bind fun r10 =>
  (app p9.2 1 16 (.lst true 1 []) r10).bind fun p11 =>
  some ([.agg [Cell.str s1, p7.1, p9.1, p11.1, Cell.bool b5]], p11.2)
theorem spec_l12Copy_code (k m : Nat) (s1 : ByteArray) (c2 : Cell) (c3 : Cell) (c4 : Cell) (b5 : Bool) : evC G_spec_l12Copy fi_spec_l12Copy (evF G_spec_l12Copy (k + 1)) m fi_spec_l12Copy.code none (retK G_spec_l12Copy fi_spec_l12Copy) (enter fi_spec_l12Copy [.agg [Cell.str s1, c2, c3, c4, Cell.bool b5]] []) = spec_l12Copy (k + 1) m s1 c2 c3 c4 b5 := by
  kernel_rfl
theorem spec_l12Copy_eq (k : Nat) (s1 : ByteArray) (c2 : Cell) (c3 : Cell) (c4 : Cell) (b5 : Bool) : evF G_spec_l12Copy (k + 2) fid_spec_l12Copy [.agg [Cell.str s1, c2, c3, c4, Cell.bool b5]] [] = spec_l12Copy (k + 1) (k + 1) s1 c2 c3 c4 b5 :=
  Eq.trans (by kernel_rfl) (spec_l12Copy_code k (k + 1) s1 c2 c3 c4 b5)
theorem run_spec_l12Copy_of {s1 : ByteArray} {c2 : Cell} {c3 : Cell} {c4 : Cell} {b5 : Bool} {r : Res} (k : Nat) (h : spec_l12Copy (k + 1) (k + 1) s1 c2 c3 c4 b5 = some r) : run_spec_l12Copy [.agg [Cell.str s1, c2, c3, c4, Cell.bool b5]] [] = some r := lim_of ((spec_l12Copy_eq k s1 c2 c3 c4 b5).trans h)
noncomputable def pl_spec_RuleAt : List (Nat × Run) := [(fid_spec_l12Copy, run_spec_l12Copy)]
noncomputable def G_spec_RuleAt : Ctx := ctx tyTab fiTab pl_spec_RuleAt
noncomputable def run_spec_RuleAt : Run := lim G_spec_RuleAt fid_spec_RuleAt
theorem ok_spec_RuleAt : FnOk Try.prog OkT fid_spec_RuleAt run_spec_RuleAt := lim_ok (l := pl_spec_RuleAt) Try_mix tyTab_ok fiTab_ok okT (.cons ok_spec_l12Copy .nil) fid_spec_RuleAt
noncomputable def spec_RuleAt_l0 (k m : Nat) : Nat → Cell → ByteArray → Int → Option Res
  | 0, _, _, _ => none
  | n + 1, c3, s4, i5 =>
    (lenC c3).bind fun n6 =>
    cond (decide (i5 < (n6 : Int)))
    ((idxA 5 (c3) i5).bind fun c7 =>
    (fldA c7 0).bind fun c8 =>
    (deref [] (c8)).bind fun p9 =>
    (cS p9.1 p9.2).bind fun s10 =>
    cond (s10.toList == s4.toList)
    ((idxA 5 (c3) i5).bind fun c11 =>
    (deref [] (c11)).bind fun p12 =>
    (cS p12.1 p12.2).bind fun s13 =>
    (cC p12.1 (p12.2 + 1)).bind fun c14 =>
    (cC p12.1 ((p12.2 + 1) + 1)).bind fun c15 =>
    (cC p12.1 (((p12.2 + 1) + 1) + 1)).bind fun c16 =>
    (cB p12.1 ((((p12.2 + 1) + 1) + 1) + 1)).bind fun b17 =>
    (callL run_spec_l12Copy [.agg [Cell.str s13, c14, c15, c16, Cell.bool b17]] []).bind fun r18 =>
    cond (shapeOk rk_spec_l12Copy r18.1)
    ((cS (cellsAt r18.1 0) 0).bind fun s19 =>
    (cC (cellsAt r18.1 0) 1).bind fun c20 =>
    (cC (cellsAt r18.1 0) 2).bind fun c21 =>
    (cC (cellsAt r18.1 0) 3).bind fun c22 =>
    (cB (cellsAt r18.1 0) 4).bind fun b23 =>
    some ([.agg [Cell.str s19, c20, c21, c22, Cell.bool b23], .one (Cell.bool true)], r18.2))
    none)
    (spec_RuleAt_l0 k m n (c3) s4 (IntKind.i64.wrap (i5 + 1))))
    (some ([.agg [Cell.str s4, .lst true 1 [], .lst true 1 [], .lst true 1 [], Cell.bool false], .one (Cell.bool false)], []))
noncomputable def spec_RuleAt (k m : Nat) (c1 : Cell) (s2 : ByteArray) : Option Res :=
  spec_RuleAt_l0 k m m (c1) s2 0
noncomputable abbrev spec_RuleAt_l0_B (k m : Nat) : (Ex → Fr → Option Res) → Fr → Option Res := evC G_spec_RuleAt fi_spec_RuleAt (evF G_spec_RuleAt (k + 1)) m (sub [1, 0, 1, 2, 3] fi_spec_RuleAt.code) none
noncomputable abbrev spec_RuleAt_l0_K (k m : Nat) : Ex → Fr → Option Res := blockK 0 (seqK (evC G_spec_RuleAt fi_spec_RuleAt (evF G_spec_RuleAt (k + 1)) m (sub [1, 1] fi_spec_RuleAt.code) none) (retK G_spec_RuleAt fi_spec_RuleAt))
theorem spec_RuleAt_l0_eq (k m : Nat) : ∀ (n : Nat) (c3 : Cell) (s4 : ByteArray) (i5 : Int), loopK (some [0, 1, 4, 6]) (spec_RuleAt_l0_B k m) (spec_RuleAt_l0_K k m) n ⟨fT 27 0 [(0, .av (.one (c3))), (1, .av (.one (Cell.str s4))), (4, .loc 4 0), (6, .av (.one (Cell.int i5)))], fX 27 0 [(4, [Cell.str (bs []), .lst true 1 [], .lst true 1 [], .lst true 1 [], Cell.bool false])], []⟩ = spec_RuleAt_l0 (k + 1) m n c3 s4 i5 := by
  intro n
  induction n with
  | zero => intros; rfl
  | succ n ih =>
    intros
    simp only [spec_RuleAt_l0, ← ih]
    kernel_rfl
theorem spec_RuleAt_code (k m : Nat) (c1 : Cell) (s2 : ByteArray) : evC G_spec_RuleAt fi_spec_RuleAt (evF G_spec_RuleAt (k + 1)) m fi_spec_RuleAt.code none (retK G_spec_RuleAt fi_spec_RuleAt) (enter fi_spec_RuleAt [.one (c1), .one (Cell.str s2)] []) = spec_RuleAt (k + 1) m c1 s2 := by
  simp only [spec_RuleAt, ← spec_RuleAt_l0_eq k m]
  kernel_rfl
theorem spec_RuleAt_eq (k : Nat) (c1 : Cell) (s2 : ByteArray) : evF G_spec_RuleAt (k + 2) fid_spec_RuleAt [.one (c1), .one (Cell.str s2)] [] = spec_RuleAt (k + 1) (k + 1) c1 s2 :=
  Eq.trans (by kernel_rfl) (spec_RuleAt_code k (k + 1) c1 s2)
theorem run_spec_RuleAt_of {c1 : Cell} {s2 : ByteArray} {r : Res} (k : Nat) (h : spec_RuleAt (k + 1) (k + 1) c1 s2 = some r) : run_spec_RuleAt [.one (c1), .one (Cell.str s2)] [] = some r := lim_of ((spec_RuleAt_eq k c1 s2).trans h)
noncomputable def pl_laws_toStringS : List (Nat × Run) := []
noncomputable def G_laws_toStringS : Ctx := ctx tyTab fiTab pl_laws_toStringS
noncomputable def run_laws_toStringS : Run := lim G_laws_toStringS fid_laws_toStringS
theorem ok_laws_toStringS : FnOk Try.prog OkT fid_laws_toStringS run_laws_toStringS := lim_ok (l := pl_laws_toStringS) Try_mix tyTab_ok fiTab_ok okT .nil fid_laws_toStringS
noncomputable def laws_toStringS_l0 (k m : Nat) : Nat → Cell → Cell → Int → List Entry → Option Res
  | 0, _, _, _, _ => none
  | n + 1, c3, c4, i5, H6 =>
    (lenC c3).bind fun n7 =>
    cond (decide (i5 < (n7 : Int)))
    ((idxA 1 (c3) i5).bind fun c8 =>
    (deref H6 (c8)).bind fun p9 =>
    (cS p9.1 p9.2).bind fun s10 =>
    (idxA 1 (c4) i5).bind fun c11 =>
    (hStore H6 (c11) [Cell.str s10]).bind fun h12 =>
    laws_toStringS_l0 k m n (c3) (c4) (IntKind.i64.wrap (i5 + 1)) h12)
    (some ([.one (c4)], H6))
noncomputable def laws_toStringS (k m : Nat) (c1 : Cell) : Option Res :=
  (lenC c1).bind fun n2 =>
  if 0 ≤ (n2 : Int) ∧ (n2 : Int) ≤ (n2 : Int) ∧ (n2 : Int) * 16 ≤ bound ∧ (n2 : Int) ≤ bound then
  (laws_toStringS_l0 k m m (c1) ((.vs 0 1 0 (n2 : Int).toNat 0)) 0 [Entry.mk 1 (mkRows (n2 : Int).toNat [Cell.str (bs [])]) 0 false]) else none
noncomputable abbrev laws_toStringS_l0_B (k m : Nat) : (Ex → Fr → Option Res) → Fr → Option Res := evC G_laws_toStringS fi_laws_toStringS (evF G_laws_toStringS (k + 1)) m (sub [1, 1, 0, 1, 2, 3] fi_laws_toStringS.code) none
noncomputable abbrev laws_toStringS_l0_K (k m : Nat) : Ex → Fr → Option Res := blockK 0 (seqK (evC G_laws_toStringS fi_laws_toStringS (evF G_laws_toStringS (k + 1)) m (sub [1, 1, 1] fi_laws_toStringS.code) none) (retK G_laws_toStringS fi_laws_toStringS))
theorem laws_toStringS_l0_eq (k m : Nat) : ∀ (n : Nat) (c3 : Cell) (c4 : Cell) (i5 : Int) (H6 : List Entry), loopK (some [0, 3, 4]) (laws_toStringS_l0_B k m) (laws_toStringS_l0_K k m) n ⟨fT 22 0 [(0, .av (.one (c3))), (3, .av (.one (c4))), (4, .av (.one (Cell.int i5)))], fX 22 0 [], H6⟩ = laws_toStringS_l0 (k + 1) m n c3 c4 i5 H6 := by
  intro n
  induction n with
  | zero => intros; rfl
  | succ n ih =>
    intros
    simp only [laws_toStringS_l0, ← ih]
    kernel_rfl
theorem laws_toStringS_code (k m : Nat) (c1 : Cell) : evC G_laws_toStringS fi_laws_toStringS (evF G_laws_toStringS (k + 1)) m fi_laws_toStringS.code none (retK G_laws_toStringS fi_laws_toStringS) (enter fi_laws_toStringS [.one (c1)] []) = laws_toStringS (k + 1) m c1 := by
  simp only [laws_toStringS, ← laws_toStringS_l0_eq k m]
  kernel_rfl
theorem laws_toStringS_eq (k : Nat) (c1 : Cell) : evF G_laws_toStringS (k + 2) fid_laws_toStringS [.one (c1)] [] = laws_toStringS (k + 1) (k + 1) c1 :=
  Eq.trans (by kernel_rfl) (laws_toStringS_code k (k + 1) c1)
theorem run_laws_toStringS_of {c1 : Cell} {r : Res} (k : Nat) (h : laws_toStringS (k + 1) (k + 1) c1 = some r) : run_laws_toStringS [.one (c1)] [] = some r := lim_of ((laws_toStringS_eq k c1).trans h)
noncomputable def pl_laws_toRule : List (Nat × Run) := [(fid_laws_toStringS, run_laws_toStringS)]
noncomputable def G_laws_toRule : Ctx := ctx tyTab fiTab pl_laws_toRule
noncomputable def run_laws_toRule : Run := lim G_laws_toRule fid_laws_toRule
theorem ok_laws_toRule : FnOk Try.prog OkT fid_laws_toRule run_laws_toRule := lim_ok (l := pl_laws_toRule) Try_mix tyTab_ok fiTab_ok okT (.cons ok_laws_toStringS .nil) fid_laws_toRule
noncomputable def laws_toRule (k m : Nat) (s1 : ByteArray) (c2 : Cell) (c3 : Cell) (c4 : Cell) (b5 : Bool) : Option Res :=
  (callF run_laws_toStringS [.one (c2)] []).bind fun r6 =>
  cond (shapeOk rk_laws_toStringS r6.1)
  ((cC (cellsAt r6.1 0) 0).bind fun c7 =>
  (callF run_laws_toStringS [.one (c3)] r6.2).bind fun r8 =>
  cond (shapeOk rk_laws_toStringS r8.1)
  ((cC (cellsAt r8.1 0) 0).bind fun c9 =>
  (callF run_laws_toStringS [.one (c4)] r8.2).bind fun r10 =>
  cond (shapeOk rk_laws_toStringS r10.1)
  ((cC (cellsAt r10.1 0) 0).bind fun c11 =>
  some ([.agg [Cell.str s1, c7, c9, c11, Cell.bool b5]], r10.2))
  none)
  none)
  none
theorem laws_toRule_code (k m : Nat) (s1 : ByteArray) (c2 : Cell) (c3 : Cell) (c4 : Cell) (b5 : Bool) : evC G_laws_toRule fi_laws_toRule (evF G_laws_toRule (k + 1)) m fi_laws_toRule.code none (retK G_laws_toRule fi_laws_toRule) (enter fi_laws_toRule [.agg [Cell.str s1, c2, c3, c4, Cell.bool b5]] []) = laws_toRule (k + 1) m s1 c2 c3 c4 b5 := by
  kernel_rfl
theorem laws_toRule_eq (k : Nat) (s1 : ByteArray) (c2 : Cell) (c3 : Cell) (c4 : Cell) (b5 : Bool) : evF G_laws_toRule (k + 2) fid_laws_toRule [.agg [Cell.str s1, c2, c3, c4, Cell.bool b5]] [] = laws_toRule (k + 1) (k + 1) s1 c2 c3 c4 b5 :=
  Eq.trans (by kernel_rfl) (laws_toRule_code k (k + 1) s1 c2 c3 c4 b5)
theorem run_laws_toRule_of {s1 : ByteArray} {c2 : Cell} {c3 : Cell} {c4 : Cell} {b5 : Bool} {r : Res} (k : Nat) (h : laws_toRule (k + 1) (k + 1) s1 c2 c3 c4 b5 = some r) : run_laws_toRule [.agg [Cell.str s1, c2, c3, c4, Cell.bool b5]] [] = some r := lim_of ((laws_toRule_eq k s1 c2 c3 c4 b5).trans h)
noncomputable def pl_laws_toRuleS : List (Nat × Run) := [(fid_laws_toRule, run_laws_toRule)]
noncomputable def G_laws_toRuleS : Ctx := ctx tyTab fiTab pl_laws_toRuleS
noncomputable def run_laws_toRuleS : Run := lim G_laws_toRuleS fid_laws_toRuleS
theorem ok_laws_toRuleS : FnOk Try.prog OkT fid_laws_toRuleS run_laws_toRuleS := lim_ok (l := pl_laws_toRuleS) Try_mix tyTab_ok fiTab_ok okT (.cons ok_laws_toRule .nil) fid_laws_toRuleS
noncomputable def laws_toRuleS_l0 (k m : Nat) : Nat → Cell → Cell → Int → List Entry → Option Res
  | 0, _, _, _, _ => none
  | n + 1, c3, c4, i5, H6 =>
    (lenC c3).bind fun n7 =>
    cond (decide (i5 < (n7 : Int)))
    ((idxA 5 (c3) i5).bind fun c8 =>
    (deref H6 (c8)).bind fun p9 =>
    (cS p9.1 p9.2).bind fun s10 =>
    (cC p9.1 (p9.2 + 1)).bind fun c11 =>
    (cC p9.1 ((p9.2 + 1) + 1)).bind fun c12 =>
    (cC p9.1 (((p9.2 + 1) + 1) + 1)).bind fun c13 =>
    (cB p9.1 ((((p9.2 + 1) + 1) + 1) + 1)).bind fun b14 =>
    (callF run_laws_toRule [.agg [Cell.str s10, c11, c12, c13, Cell.bool b14]] H6).bind fun r15 =>
    cond (shapeOk rk_laws_toRule r15.1)
    ((cS (cellsAt r15.1 0) 0).bind fun s16 =>
    (cC (cellsAt r15.1 0) 1).bind fun c17 =>
    (cC (cellsAt r15.1 0) 2).bind fun c18 =>
    (cC (cellsAt r15.1 0) 3).bind fun c19 =>
    (cB (cellsAt r15.1 0) 4).bind fun b20 =>
    (idxA 5 (c4) i5).bind fun c21 =>
    (hStore r15.2 (c21) [Cell.str s16, c17, c18, c19, Cell.bool b20]).bind fun h22 =>
    laws_toRuleS_l0 k m n (c3) (c4) (IntKind.i64.wrap (i5 + 1)) h22)
    none)
    (some ([.one (c4)], H6))
noncomputable def laws_toRuleS (k m : Nat) (c1 : Cell) : Option Res :=
  (lenC c1).bind fun n2 =>
  if 0 ≤ (n2 : Int) ∧ (n2 : Int) ≤ (n2 : Int) ∧ (n2 : Int) * 96 ≤ bound ∧ (n2 : Int) ≤ bound then
  (laws_toRuleS_l0 k m m (c1) ((.vs 0 5 0 (n2 : Int).toNat 0)) 0 [Entry.mk 5 (mkRows (n2 : Int).toNat [Cell.str (bs []), .lst true 1 [], .lst true 1 [], .lst true 1 [], Cell.bool false]) 0 false]) else none
noncomputable abbrev laws_toRuleS_l0_B (k m : Nat) : (Ex → Fr → Option Res) → Fr → Option Res := evC G_laws_toRuleS fi_laws_toRuleS (evF G_laws_toRuleS (k + 1)) m (sub [1, 1, 0, 1, 2, 3] fi_laws_toRuleS.code) none
noncomputable abbrev laws_toRuleS_l0_K (k m : Nat) : Ex → Fr → Option Res := blockK 0 (seqK (evC G_laws_toRuleS fi_laws_toRuleS (evF G_laws_toRuleS (k + 1)) m (sub [1, 1, 1] fi_laws_toRuleS.code) none) (retK G_laws_toRuleS fi_laws_toRuleS))
theorem laws_toRuleS_l0_eq (k m : Nat) : ∀ (n : Nat) (c3 : Cell) (c4 : Cell) (i5 : Int) (H6 : List Entry), loopK (some [0, 3, 4]) (laws_toRuleS_l0_B k m) (laws_toRuleS_l0_K k m) n ⟨fT 23 0 [(0, .av (.one (c3))), (3, .av (.one (c4))), (4, .av (.one (Cell.int i5)))], fX 23 0 [], H6⟩ = laws_toRuleS_l0 (k + 1) m n c3 c4 i5 H6 := by
  intro n
  induction n with
  | zero => intros; rfl
  | succ n ih =>
    intros
    simp only [laws_toRuleS_l0, ← ih]
    kernel_rfl
theorem laws_toRuleS_code (k m : Nat) (c1 : Cell) : evC G_laws_toRuleS fi_laws_toRuleS (evF G_laws_toRuleS (k + 1)) m fi_laws_toRuleS.code none (retK G_laws_toRuleS fi_laws_toRuleS) (enter fi_laws_toRuleS [.one (c1)] []) = laws_toRuleS (k + 1) m c1 := by
  simp only [laws_toRuleS, ← laws_toRuleS_l0_eq k m]
  kernel_rfl
theorem laws_toRuleS_eq (k : Nat) (c1 : Cell) : evF G_laws_toRuleS (k + 2) fid_laws_toRuleS [.one (c1)] [] = laws_toRuleS (k + 1) (k + 1) c1 :=
  Eq.trans (by kernel_rfl) (laws_toRuleS_code k (k + 1) c1)
theorem run_laws_toRuleS_of {c1 : Cell} {r : Res} (k : Nat) (h : laws_toRuleS (k + 1) (k + 1) c1 = some r) : run_laws_toRuleS [.one (c1)] [] = some r := lim_of ((laws_toRuleS_eq k c1).trans h)
noncomputable def pl_slices_Clone_string : List (Nat × Run) := []
noncomputable def G_slices_Clone_string : Ctx := ctx tyTab fiTab pl_slices_Clone_string
noncomputable def run_slices_Clone_string : Run := lim G_slices_Clone_string fid_slices_Clone_string
theorem ok_slices_Clone_string : FnOk Try.prog OkT fid_slices_Clone_string run_slices_Clone_string := lim_ok (l := pl_slices_Clone_string) Try_mix tyTab_ok fiTab_ok okT .nil fid_slices_Clone_string
noncomputable def slices_Clone_string (k m : Nat) (c1 : Cell) : Option Res :=
  nilC (c1)
  (both
  (some ([.one (.lst true 1 [])], []))
  ((srcRows [] 1 c1).bind fun r2 =>
  (app [] 1 16 (.lst true 1 []) r2).bind fun p3 =>
  some ([.one (p3.1)], p3.2)))
  ((srcRows [] 1 c1).bind fun r4 =>
  (app [] 1 16 (.lst true 1 []) r4).bind fun p5 =>
  some ([.one (p5.1)], p5.2))
theorem slices_Clone_string_code (k m : Nat) (c1 : Cell) : evC G_slices_Clone_string fi_slices_Clone_string (evF G_slices_Clone_string (k + 1)) m fi_slices_Clone_string.code none (retK G_slices_Clone_string fi_slices_Clone_string) (enter fi_slices_Clone_string [.one (c1)] []) = slices_Clone_string (k + 1) m c1 := by
  kernel_rfl
theorem slices_Clone_string_eq (k : Nat) (c1 : Cell) : evF G_slices_Clone_string (k + 2) fid_slices_Clone_string [.one (c1)] [] = slices_Clone_string (k + 1) (k + 1) c1 :=
  Eq.trans (by kernel_rfl) (slices_Clone_string_code k (k + 1) c1)
theorem run_slices_Clone_string_of {c1 : Cell} {r : Res} (k : Nat) (h : slices_Clone_string (k + 1) (k + 1) c1 = some r) : run_slices_Clone_string [.one (c1)] [] = some r := lim_of ((slices_Clone_string_eq k c1).trans h)
noncomputable def pl_impl_copyRule : List (Nat × Run) := [(fid_slices_Clone_string, run_slices_Clone_string)]
noncomputable def G_impl_copyRule : Ctx := ctx tyTab fiTab pl_impl_copyRule
noncomputable def run_impl_copyRule : Run := lim G_impl_copyRule fid_impl_copyRule
theorem ok_impl_copyRule : FnOk Try.prog OkT fid_impl_copyRule run_impl_copyRule := lim_ok (l := pl_impl_copyRule) Try_mix tyTab_ok fiTab_ok okT (.cons ok_slices_Clone_string .nil) fid_impl_copyRule
noncomputable def impl_copyRule (k m : Nat) (s1 : ByteArray) (c2 : Cell) (c3 : Cell) (c4 : Cell) (b5 : Bool) : Option Res :=
  (callF run_slices_Clone_string [.one (c2)] []).bind fun r6 =>
  cond (shapeOk rk_slices_Clone_string r6.1)
  ((cC (cellsAt r6.1 0) 0).bind fun c7 =>
  (callF run_slices_Clone_string [.one (c3)] r6.2).bind fun r8 =>
  cond (shapeOk rk_slices_Clone_string r8.1)
  ((cC (cellsAt r8.1 0) 0).bind fun c9 =>
  (callF run_slices_Clone_string [.one (c4)] r8.2).bind fun r10 =>
  cond (shapeOk rk_slices_Clone_string r10.1)
  ((cC (cellsAt r10.1 0) 0).bind fun c11 =>
  some ([.agg [Cell.str s1, c7, c9, c11, Cell.bool b5]], r10.2))
  none)
  none)
  none
theorem impl_copyRule_code (k m : Nat) (s1 : ByteArray) (c2 : Cell) (c3 : Cell) (c4 : Cell) (b5 : Bool) : evC G_impl_copyRule fi_impl_copyRule (evF G_impl_copyRule (k + 1)) m fi_impl_copyRule.code none (retK G_impl_copyRule fi_impl_copyRule) (enter fi_impl_copyRule [.agg [Cell.str s1, c2, c3, c4, Cell.bool b5]] []) = impl_copyRule (k + 1) m s1 c2 c3 c4 b5 := by
  kernel_rfl
theorem impl_copyRule_eq (k : Nat) (s1 : ByteArray) (c2 : Cell) (c3 : Cell) (c4 : Cell) (b5 : Bool) : evF G_impl_copyRule (k + 2) fid_impl_copyRule [.agg [Cell.str s1, c2, c3, c4, Cell.bool b5]] [] = impl_copyRule (k + 1) (k + 1) s1 c2 c3 c4 b5 :=
  Eq.trans (by kernel_rfl) (impl_copyRule_code k (k + 1) s1 c2 c3 c4 b5)
theorem run_impl_copyRule_of {s1 : ByteArray} {c2 : Cell} {c3 : Cell} {c4 : Cell} {b5 : Bool} {r : Res} (k : Nat) (h : impl_copyRule (k + 1) (k + 1) s1 c2 c3 c4 b5 = some r) : run_impl_copyRule [.agg [Cell.str s1, c2, c3, c4, Cell.bool b5]] [] = some r := lim_of ((impl_copyRule_eq k s1 c2 c3 c4 b5).trans h)
noncomputable def pl_impl_RuleAt : List (Nat × Run) := [(fid_impl_copyRule, run_impl_copyRule)]
noncomputable def G_impl_RuleAt : Ctx := ctx tyTab fiTab pl_impl_RuleAt
noncomputable def run_impl_RuleAt : Run := lim G_impl_RuleAt fid_impl_RuleAt
theorem ok_impl_RuleAt : FnOk Try.prog OkT fid_impl_RuleAt run_impl_RuleAt := lim_ok (l := pl_impl_RuleAt) Try_mix tyTab_ok fiTab_ok okT (.cons ok_impl_copyRule .nil) fid_impl_RuleAt
noncomputable def impl_RuleAt_l0 (k m : Nat) : Nat → ByteArray → Cell → Int → Int → Option Res
  | 0, _, _, _, _ => none
  | n + 1, s4, c5, i6, i7 =>
    cond (decide (i7 < i6))
    ((idxA 5 (c5) i7).bind fun c8 =>
    (deref [] (c8)).bind fun p9 =>
    (cS p9.1 p9.2).bind fun s10 =>
    (cC p9.1 (p9.2 + 1)).bind fun c11 =>
    (cC p9.1 ((p9.2 + 1) + 1)).bind fun c12 =>
    (cC p9.1 (((p9.2 + 1) + 1) + 1)).bind fun c13 =>
    (cB p9.1 ((((p9.2 + 1) + 1) + 1) + 1)).bind fun b14 =>
    cond (s10.toList == s4.toList)
    ((callF run_impl_copyRule [.agg [Cell.str s10, c11, c12, c13, Cell.bool b14]] []).bind fun r15 =>
    cond (shapeOk rk_impl_copyRule r15.1)
    ((cS (cellsAt r15.1 0) 0).bind fun s16 =>
    (cC (cellsAt r15.1 0) 1).bind fun c17 =>
    (cC (cellsAt r15.1 0) 2).bind fun c18 =>
    (cC (cellsAt r15.1 0) 3).bind fun c19 =>
    (cB (cellsAt r15.1 0) 4).bind fun b20 =>
    some ([.agg [Cell.str s16, c17, c18, c19, Cell.bool b20], .one (Cell.bool true)], r15.2))
    none)
    (impl_RuleAt_l0 k m n s4 (c5) i6 (IntKind.i64.wrap (i7 + 1))))
    (some ([.agg [Cell.str s4, .lst true 1 [], .lst true 1 [], .lst true 1 [], Cell.bool false], .one (Cell.bool false)], []))
noncomputable def impl_RuleAt (k m : Nat) (c1 : Cell) (s2 : ByteArray) : Option Res :=
  (lenC c1).bind fun n3 =>
  impl_RuleAt_l0 k m m s2 (c1) (n3 : Int) 0
noncomputable abbrev impl_RuleAt_l0_B (k m : Nat) : (Ex → Fr → Option Res) → Fr → Option Res := evC G_impl_RuleAt fi_impl_RuleAt (evF G_impl_RuleAt (k + 1)) m (sub [1, 0, 1, 2, 3] fi_impl_RuleAt.code) none
noncomputable abbrev impl_RuleAt_l0_K (k m : Nat) : Ex → Fr → Option Res := blockK 0 (seqK (evC G_impl_RuleAt fi_impl_RuleAt (evF G_impl_RuleAt (k + 1)) m (sub [1, 1] fi_impl_RuleAt.code) none) (retK G_impl_RuleAt fi_impl_RuleAt))
theorem impl_RuleAt_l0_eq (k m : Nat) : ∀ (n : Nat) (s4 : ByteArray) (c5 : Cell) (i6 : Int) (i7 : Int), loopK (some [1, 4, 8, 9, 10]) (impl_RuleAt_l0_B k m) (impl_RuleAt_l0_K k m) n ⟨fT 23 0 [(1, .av (.one (Cell.str s4))), (4, .loc 4 0), (8, .av (.one (c5))), (9, .av (.one (Cell.int i6))), (10, .av (.one (Cell.int i7)))], fX 23 0 [(4, [Cell.str (bs []), .lst true 1 [], .lst true 1 [], .lst true 1 [], Cell.bool false])], []⟩ = impl_RuleAt_l0 (k + 1) m n s4 c5 i6 i7 := by
  intro n
  induction n with
  | zero => intros; rfl
  | succ n ih =>
    intros
    simp only [impl_RuleAt_l0, ← ih]
    kernel_rfl
theorem impl_RuleAt_code (k m : Nat) (c1 : Cell) (s2 : ByteArray) : evC G_impl_RuleAt fi_impl_RuleAt (evF G_impl_RuleAt (k + 1)) m fi_impl_RuleAt.code none (retK G_impl_RuleAt fi_impl_RuleAt) (enter fi_impl_RuleAt [.one (c1), .one (Cell.str s2)] []) = impl_RuleAt (k + 1) m c1 s2 := by
  simp only [impl_RuleAt, ← impl_RuleAt_l0_eq k m]
  kernel_rfl
theorem impl_RuleAt_eq (k : Nat) (c1 : Cell) (s2 : ByteArray) : evF G_impl_RuleAt (k + 2) fid_impl_RuleAt [.one (c1), .one (Cell.str s2)] [] = impl_RuleAt (k + 1) (k + 1) c1 s2 :=
  Eq.trans (by kernel_rfl) (impl_RuleAt_code k (k + 1) c1 s2)
theorem run_impl_RuleAt_of {c1 : Cell} {s2 : ByteArray} {r : Res} (k : Nat) (h : impl_RuleAt (k + 1) (k + 1) c1 s2 = some r) : run_impl_RuleAt [.one (c1), .one (Cell.str s2)] [] = some r := lim_of ((impl_RuleAt_eq k c1 s2).trans h)
noncomputable def pl_laws_eqStringS : List (Nat × Run) := []
noncomputable def G_laws_eqStringS : Ctx := ctx tyTab fiTab pl_laws_eqStringS
noncomputable def run_laws_eqStringS : Run := lim G_laws_eqStringS fid_laws_eqStringS
theorem ok_laws_eqStringS : FnOk Try.prog OkT fid_laws_eqStringS run_laws_eqStringS := lim_ok (l := pl_laws_eqStringS) Try_mix tyTab_ok fiTab_ok okT .nil fid_laws_eqStringS
noncomputable def laws_eqStringS_l0 (k m : Nat) : Nat → Cell → Cell → Int → Option Res
  | 0, _, _, _ => none
  | n + 1, c5, c6, i7 =>
    (lenC c5).bind fun n8 =>
    cond (decide (i7 < (n8 : Int)))
    ((idxA 1 (c5) i7).bind fun c9 =>
    (deref [] (c9)).bind fun p10 =>
    (cS p10.1 p10.2).bind fun s11 =>
    (idxA 1 (c6) i7).bind fun c12 =>
    (deref [] (c12)).bind fun p13 =>
    (cS p13.1 p13.2).bind fun s14 =>
    cond (!(s11.toList == s14.toList))
    (some ([.one (Cell.bool false)], []))
    (laws_eqStringS_l0 k m n (c5) (c6) (IntKind.i64.wrap (i7 + 1))))
    (some ([.one (Cell.bool true)], []))
noncomputable def laws_eqStringS (k m : Nat) (c1 : Cell) (c2 : Cell) : Option Res :=
  (lenC c1).bind fun n3 =>
  (lenC c2).bind fun n4 =>
  cond ((n3 : Int) != (n4 : Int))
  (some ([.one (Cell.bool false)], []))
  (laws_eqStringS_l0 k m m (c1) (c2) 0)
noncomputable abbrev laws_eqStringS_l0_B (k m : Nat) : (Ex → Fr → Option Res) → Fr → Option Res := evC G_laws_eqStringS fi_laws_eqStringS (evF G_laws_eqStringS (k + 1)) m (sub [1, 1, 0, 1, 2, 3] fi_laws_eqStringS.code) none
noncomputable abbrev laws_eqStringS_l0_K (k m : Nat) : Ex → Fr → Option Res := blockK 0 (seqK (evC G_laws_eqStringS fi_laws_eqStringS (evF G_laws_eqStringS (k + 1)) m (sub [1, 1, 1] fi_laws_eqStringS.code) none) (retK G_laws_eqStringS fi_laws_eqStringS))
theorem laws_eqStringS_l0_eq (k m : Nat) : ∀ (n : Nat) (c5 : Cell) (c6 : Cell) (i7 : Int), loopK (some [0, 1, 5]) (laws_eqStringS_l0_B k m) (laws_eqStringS_l0_K k m) n ⟨fT 26 0 [(0, .av (.one (c5))), (1, .av (.one (c6))), (5, .av (.one (Cell.int i7)))], fX 26 0 [], []⟩ = laws_eqStringS_l0 (k + 1) m n c5 c6 i7 := by
  intro n
  induction n with
  | zero => intros; rfl
  | succ n ih =>
    intros
    simp only [laws_eqStringS_l0, ← ih]
    kernel_rfl
theorem laws_eqStringS_code (k m : Nat) (c1 : Cell) (c2 : Cell) : evC G_laws_eqStringS fi_laws_eqStringS (evF G_laws_eqStringS (k + 1)) m fi_laws_eqStringS.code none (retK G_laws_eqStringS fi_laws_eqStringS) (enter fi_laws_eqStringS [.one (c1), .one (c2)] []) = laws_eqStringS (k + 1) m c1 c2 := by
  simp only [laws_eqStringS, ← laws_eqStringS_l0_eq k m]
  kernel_rfl
theorem laws_eqStringS_eq (k : Nat) (c1 : Cell) (c2 : Cell) : evF G_laws_eqStringS (k + 2) fid_laws_eqStringS [.one (c1), .one (c2)] [] = laws_eqStringS (k + 1) (k + 1) c1 c2 :=
  Eq.trans (by kernel_rfl) (laws_eqStringS_code k (k + 1) c1 c2)
theorem run_laws_eqStringS_of {c1 : Cell} {c2 : Cell} {r : Res} (k : Nat) (h : laws_eqStringS (k + 1) (k + 1) c1 c2 = some r) : run_laws_eqStringS [.one (c1), .one (c2)] [] = some r := lim_of ((laws_eqStringS_eq k c1 c2).trans h)
noncomputable def pl_laws_eqRule : List (Nat × Run) := [(fid_laws_eqStringS, run_laws_eqStringS)]
noncomputable def G_laws_eqRule : Ctx := ctx tyTab fiTab pl_laws_eqRule
noncomputable def run_laws_eqRule : Run := lim G_laws_eqRule fid_laws_eqRule
theorem ok_laws_eqRule : FnOk Try.prog OkT fid_laws_eqRule run_laws_eqRule := lim_ok (l := pl_laws_eqRule) Try_mix tyTab_ok fiTab_ok okT (.cons ok_laws_eqStringS .nil) fid_laws_eqRule
noncomputable def laws_eqRule (k m : Nat) (s1 : ByteArray) (c2 : Cell) (c3 : Cell) (c4 : Cell) (b5 : Bool) (s6 : ByteArray) (c7 : Cell) (c8 : Cell) (c9 : Cell) (b10 : Bool) : Option Res :=
  cond (!(s1.toList == s6.toList))
  (some ([.one (Cell.bool false)], []))
  ((callS run_laws_eqStringS [.one (c2), .one (c7)] []).bind fun r11 =>
  cond (shapeOk rk_laws_eqStringS r11)
  ((cB (cellsAt r11 0) 0).bind fun b12 =>
  cond (!b12)
  (some ([.one (Cell.bool false)], []))
  ((callS run_laws_eqStringS [.one (c3), .one (c8)] []).bind fun r13 =>
  cond (shapeOk rk_laws_eqStringS r13)
  ((cB (cellsAt r13 0) 0).bind fun b14 =>
  cond (!b14)
  (some ([.one (Cell.bool false)], []))
  ((callS run_laws_eqStringS [.one (c4), .one (c9)] []).bind fun r15 =>
  cond (shapeOk rk_laws_eqStringS r15)
  ((cB (cellsAt r15 0) 0).bind fun b16 =>
  cond (!b16)
  (some ([.one (Cell.bool false)], []))
  (cond (!(b5 == b10))
  (some ([.one (Cell.bool false)], []))
  (some ([.one (Cell.bool true)], []))))
  none))
  none))
  none)
theorem laws_eqRule_code (k m : Nat) (s1 : ByteArray) (c2 : Cell) (c3 : Cell) (c4 : Cell) (b5 : Bool) (s6 : ByteArray) (c7 : Cell) (c8 : Cell) (c9 : Cell) (b10 : Bool) : evC G_laws_eqRule fi_laws_eqRule (evF G_laws_eqRule (k + 1)) m fi_laws_eqRule.code none (retK G_laws_eqRule fi_laws_eqRule) (enter fi_laws_eqRule [.agg [Cell.str s1, c2, c3, c4, Cell.bool b5], .agg [Cell.str s6, c7, c8, c9, Cell.bool b10]] []) = laws_eqRule (k + 1) m s1 c2 c3 c4 b5 s6 c7 c8 c9 b10 := by
  kernel_rfl
theorem laws_eqRule_eq (k : Nat) (s1 : ByteArray) (c2 : Cell) (c3 : Cell) (c4 : Cell) (b5 : Bool) (s6 : ByteArray) (c7 : Cell) (c8 : Cell) (c9 : Cell) (b10 : Bool) : evF G_laws_eqRule (k + 2) fid_laws_eqRule [.agg [Cell.str s1, c2, c3, c4, Cell.bool b5], .agg [Cell.str s6, c7, c8, c9, Cell.bool b10]] [] = laws_eqRule (k + 1) (k + 1) s1 c2 c3 c4 b5 s6 c7 c8 c9 b10 :=
  Eq.trans (by kernel_rfl) (laws_eqRule_code k (k + 1) s1 c2 c3 c4 b5 s6 c7 c8 c9 b10)
theorem run_laws_eqRule_of {s1 : ByteArray} {c2 : Cell} {c3 : Cell} {c4 : Cell} {b5 : Bool} {s6 : ByteArray} {c7 : Cell} {c8 : Cell} {c9 : Cell} {b10 : Bool} {r : Res} (k : Nat) (h : laws_eqRule (k + 1) (k + 1) s1 c2 c3 c4 b5 s6 c7 c8 c9 b10 = some r) : run_laws_eqRule [.agg [Cell.str s1, c2, c3, c4, Cell.bool b5], .agg [Cell.str s6, c7, c8, c9, Cell.bool b10]] [] = some r := lim_of ((laws_eqRule_eq k s1 c2 c3 c4 b5 s6 c7 c8 c9 b10).trans h)
noncomputable def pl_laws_eqRuleS : List (Nat × Run) := [(fid_laws_eqRule, run_laws_eqRule)]
noncomputable def G_laws_eqRuleS : Ctx := ctx tyTab fiTab pl_laws_eqRuleS
noncomputable def run_laws_eqRuleS : Run := lim G_laws_eqRuleS fid_laws_eqRuleS
theorem ok_laws_eqRuleS : FnOk Try.prog OkT fid_laws_eqRuleS run_laws_eqRuleS := lim_ok (l := pl_laws_eqRuleS) Try_mix tyTab_ok fiTab_ok okT (.cons ok_laws_eqRule .nil) fid_laws_eqRuleS
noncomputable def laws_eqRuleS_l0 (k m : Nat) : Nat → Cell → Cell → Int → Option Res
  | 0, _, _, _ => none
  | n + 1, c5, c6, i7 =>
    (lenC c5).bind fun n8 =>
    cond (decide (i7 < (n8 : Int)))
    ((idxA 5 (c5) i7).bind fun c9 =>
    (deref [] (c9)).bind fun p10 =>
    (cS p10.1 p10.2).bind fun s11 =>
    (cC p10.1 (p10.2 + 1)).bind fun c12 =>
    (cC p10.1 ((p10.2 + 1) + 1)).bind fun c13 =>
    (cC p10.1 (((p10.2 + 1) + 1) + 1)).bind fun c14 =>
    (cB p10.1 ((((p10.2 + 1) + 1) + 1) + 1)).bind fun b15 =>
    (idxA 5 (c6) i7).bind fun c16 =>
    (deref [] (c16)).bind fun p17 =>
    (cS p17.1 p17.2).bind fun s18 =>
    (cC p17.1 (p17.2 + 1)).bind fun c19 =>
    (cC p17.1 ((p17.2 + 1) + 1)).bind fun c20 =>
    (cC p17.1 (((p17.2 + 1) + 1) + 1)).bind fun c21 =>
    (cB p17.1 ((((p17.2 + 1) + 1) + 1) + 1)).bind fun b22 =>
    (callS run_laws_eqRule [.agg [Cell.str s11, c12, c13, c14, Cell.bool b15], .agg [Cell.str s18, c19, c20, c21, Cell.bool b22]] []).bind fun r23 =>
    cond (shapeOk rk_laws_eqRule r23)
    ((cB (cellsAt r23 0) 0).bind fun b24 =>
    cond (!b24)
    (some ([.one (Cell.bool false)], []))
    (laws_eqRuleS_l0 k m n (c5) (c6) (IntKind.i64.wrap (i7 + 1))))
    none)
    (some ([.one (Cell.bool true)], []))
noncomputable def laws_eqRuleS (k m : Nat) (c1 : Cell) (c2 : Cell) : Option Res :=
  (lenC c1).bind fun n3 =>
  (lenC c2).bind fun n4 =>
  cond ((n3 : Int) != (n4 : Int))
  (some ([.one (Cell.bool false)], []))
  (laws_eqRuleS_l0 k m m (c1) (c2) 0)
noncomputable abbrev laws_eqRuleS_l0_B (k m : Nat) : (Ex → Fr → Option Res) → Fr → Option Res := evC G_laws_eqRuleS fi_laws_eqRuleS (evF G_laws_eqRuleS (k + 1)) m (sub [1, 1, 0, 1, 2, 3] fi_laws_eqRuleS.code) none
noncomputable abbrev laws_eqRuleS_l0_K (k m : Nat) : Ex → Fr → Option Res := blockK 0 (seqK (evC G_laws_eqRuleS fi_laws_eqRuleS (evF G_laws_eqRuleS (k + 1)) m (sub [1, 1, 1] fi_laws_eqRuleS.code) none) (retK G_laws_eqRuleS fi_laws_eqRuleS))
theorem laws_eqRuleS_l0_eq (k m : Nat) : ∀ (n : Nat) (c5 : Cell) (c6 : Cell) (i7 : Int), loopK (some [0, 1, 5]) (laws_eqRuleS_l0_B k m) (laws_eqRuleS_l0_K k m) n ⟨fT 27 0 [(0, .av (.one (c5))), (1, .av (.one (c6))), (5, .av (.one (Cell.int i7)))], fX 27 0 [], []⟩ = laws_eqRuleS_l0 (k + 1) m n c5 c6 i7 := by
  intro n
  induction n with
  | zero => intros; rfl
  | succ n ih =>
    intros
    simp only [laws_eqRuleS_l0, ← ih]
    kernel_rfl
theorem laws_eqRuleS_code (k m : Nat) (c1 : Cell) (c2 : Cell) : evC G_laws_eqRuleS fi_laws_eqRuleS (evF G_laws_eqRuleS (k + 1)) m fi_laws_eqRuleS.code none (retK G_laws_eqRuleS fi_laws_eqRuleS) (enter fi_laws_eqRuleS [.one (c1), .one (c2)] []) = laws_eqRuleS (k + 1) m c1 c2 := by
  simp only [laws_eqRuleS, ← laws_eqRuleS_l0_eq k m]
  kernel_rfl
theorem laws_eqRuleS_eq (k : Nat) (c1 : Cell) (c2 : Cell) : evF G_laws_eqRuleS (k + 2) fid_laws_eqRuleS [.one (c1), .one (c2)] [] = laws_eqRuleS (k + 1) (k + 1) c1 c2 :=
  Eq.trans (by kernel_rfl) (laws_eqRuleS_code k (k + 1) c1 c2)
theorem run_laws_eqRuleS_of {c1 : Cell} {c2 : Cell} {r : Res} (k : Nat) (h : laws_eqRuleS (k + 1) (k + 1) c1 c2 = some r) : run_laws_eqRuleS [.one (c1), .one (c2)] [] = some r := lim_of ((laws_eqRuleS_eq k c1 c2).trans h)
noncomputable def pl_laws_markText : List (Nat × Run) := []
noncomputable def G_laws_markText : Ctx := ctx tyTab fiTab pl_laws_markText
noncomputable def run_laws_markText : Run := lim G_laws_markText fid_laws_markText
theorem ok_laws_markText : FnOk Try.prog OkT fid_laws_markText run_laws_markText := lim_ok (l := pl_laws_markText) Try_mix tyTab_ok fiTab_ok okT .nil fid_laws_markText
noncomputable def laws_markText_l0 (k m : Nat) : Nat → Int → ByteArray → Option Res
  | 0, _, _ => none
  | n + 1, i2, s3 =>
    cond (decide (i2 > 0))
    ((bytesOf [] (.lst true 1 [[.sc (.int .u8 (IntKind.u8.wrap (IntKind.i64.wrap (48 + (i2.tmod 10)))))]])).bind fun s4 =>
    (catS s4 s3).bind fun s5 =>
    laws_markText_l0 k m n (IntKind.i64.wrap (i2.tdiv 10)) s5)
    ((catS (bs [109]) s3).bind fun s6 =>
    some ([.one (Cell.str s6)], []))
noncomputable def laws_markText (k m : Nat) (i1 : Int) : Option Res :=
  cond (decide (i1 ≤ 0))
  (some ([.one (Cell.str (bs [109, 48]))], []))
  (laws_markText_l0 k m m i1 (bs []))
noncomputable abbrev laws_markText_l0_B (k m : Nat) : (Ex → Fr → Option Res) → Fr → Option Res := evC G_laws_markText fi_laws_markText (evF G_laws_markText (k + 1)) m (sub [1, 1, 1, 0, 2, 3] fi_laws_markText.code) none
noncomputable abbrev laws_markText_l0_K (k m : Nat) : Ex → Fr → Option Res := blockK 0 (seqK (evC G_laws_markText fi_laws_markText (evF G_laws_markText (k + 1)) m (sub [1, 1, 1, 1] fi_laws_markText.code) none) (retK G_laws_markText fi_laws_markText))
theorem laws_markText_l0_eq (k m : Nat) : ∀ (n : Nat) (i2 : Int) (s3 : ByteArray), loopK (some [0, 3]) (laws_markText_l0_B k m) (laws_markText_l0_K k m) n ⟨fT 20 0 [(0, .av (.one (Cell.int i2))), (3, .av (.one (Cell.str s3)))], fX 20 0 [], []⟩ = laws_markText_l0 (k + 1) m n i2 s3 := by
  intro n
  induction n with
  | zero => intros; rfl
  | succ n ih =>
    intros
    simp only [laws_markText_l0, ← ih]
    kernel_rfl
theorem laws_markText_code (k m : Nat) (i1 : Int) : evC G_laws_markText fi_laws_markText (evF G_laws_markText (k + 1)) m fi_laws_markText.code none (retK G_laws_markText fi_laws_markText) (enter fi_laws_markText [.one (Cell.int i1)] []) = laws_markText (k + 1) m i1 := by
  simp only [laws_markText, ← laws_markText_l0_eq k m]
  kernel_rfl
theorem laws_markText_eq (k : Nat) (i1 : Int) : evF G_laws_markText (k + 2) fid_laws_markText [.one (Cell.int i1)] [] = laws_markText (k + 1) (k + 1) i1 :=
  Eq.trans (by kernel_rfl) (laws_markText_code k (k + 1) i1)
theorem run_laws_markText_of {i1 : Int} {r : Res} (k : Nat) (h : laws_markText (k + 1) (k + 1) i1 = some r) : run_laws_markText [.one (Cell.int i1)] [] = some r := lim_of ((laws_markText_eq k i1).trans h)
noncomputable def pl_laws_markStringS : List (Nat × Run) := [(fid_laws_markText, run_laws_markText)]
noncomputable def G_laws_markStringS : Ctx := ctx tyTab fiTab pl_laws_markStringS
noncomputable def run_laws_markStringS : Run := lim G_laws_markStringS fid_laws_markStringS
theorem ok_laws_markStringS : FnOk Try.prog OkT fid_laws_markStringS run_laws_markStringS := lim_ok (l := pl_laws_markStringS) Try_mix tyTab_ok fiTab_ok okT (.cons ok_laws_markText .nil) fid_laws_markStringS
noncomputable def laws_markStringS_l0 (k m : Nat) : Nat → Cell → Int → Int → List Entry → Option Res
  | 0, _, _, _, _ => none
  | n + 1, c3, i4, i5, H6 =>
    (lenC c3).bind fun n7 =>
    cond (decide (i5 < (n7 : Int)))
    ((callS run_laws_markText [.one (Cell.int i4)] H6).bind fun r8 =>
    cond (shapeOk rk_laws_markText r8)
    ((cS (cellsAt r8 0) 0).bind fun s9 =>
    (idxA 1 (c3) i5).bind fun c10 =>
    (hStore H6 (c10) [Cell.str s9]).bind fun h11 =>
    laws_markStringS_l0 k m n (c3) (IntKind.i64.wrap (i4 + 1)) (IntKind.i64.wrap (i5 + 1)) h11)
    none)
    (some ([.one (Cell.int i4)], H6))
noncomputable def laws_markStringS (k m : Nat) (c1 : Cell) (i2 : Int) (H : List Entry) : Option Res :=
  laws_markStringS_l0 k m m (c1) i2 0 H
noncomputable abbrev laws_markStringS_l0_B (k m : Nat) : (Ex → Fr → Option Res) → Fr → Option Res := evC G_laws_markStringS fi_laws_markStringS (evF G_laws_markStringS (k + 1)) m (sub [1, 0, 1, 2, 3] fi_laws_markStringS.code) none
noncomputable abbrev laws_markStringS_l0_K (k m : Nat) : Ex → Fr → Option Res := blockK 0 (seqK (evC G_laws_markStringS fi_laws_markStringS (evF G_laws_markStringS (k + 1)) m (sub [1, 1] fi_laws_markStringS.code) none) (retK G_laws_markStringS fi_laws_markStringS))
theorem laws_markStringS_l0_eq (k m : Nat) : ∀ (n : Nat) (c3 : Cell) (i4 : Int) (i5 : Int) (H6 : List Entry), loopK (some [0, 1, 5]) (laws_markStringS_l0_B k m) (laws_markStringS_l0_K k m) n ⟨fT 20 0 [(0, .av (.one (c3))), (1, .av (.one (Cell.int i4))), (5, .av (.one (Cell.int i5)))], fX 20 0 [], H6⟩ = laws_markStringS_l0 (k + 1) m n c3 i4 i5 H6 := by
  intro n
  induction n with
  | zero => intros; rfl
  | succ n ih =>
    intros
    simp only [laws_markStringS_l0, ← ih]
    kernel_rfl
theorem laws_markStringS_code (k m : Nat) (c1 : Cell) (i2 : Int) (H : List Entry) : evC G_laws_markStringS fi_laws_markStringS (evF G_laws_markStringS (k + 1)) m fi_laws_markStringS.code none (retK G_laws_markStringS fi_laws_markStringS) (enter fi_laws_markStringS [.one (c1), .one (Cell.int i2)] H) = laws_markStringS (k + 1) m c1 i2 H := by
  simp only [laws_markStringS, ← laws_markStringS_l0_eq k m]
  kernel_rfl
theorem laws_markStringS_eq (k : Nat) (c1 : Cell) (i2 : Int) (H : List Entry) : evF G_laws_markStringS (k + 2) fid_laws_markStringS [.one (c1), .one (Cell.int i2)] H = laws_markStringS (k + 1) (k + 1) c1 i2 H :=
  Eq.trans (by kernel_rfl) (laws_markStringS_code k (k + 1) c1 i2 H)
theorem run_laws_markStringS_of {c1 : Cell} {i2 : Int} {H : List Entry} {r : Res} (k : Nat) (h : laws_markStringS (k + 1) (k + 1) c1 i2 H = some r) : run_laws_markStringS [.one (c1), .one (Cell.int i2)] H = some r := lim_of ((laws_markStringS_eq k c1 i2 H).trans h)
noncomputable def pl_laws_markRuleS : List (Nat × Run) := [(fid_laws_markStringS, run_laws_markStringS), (fid_laws_markText, run_laws_markText)]
noncomputable def G_laws_markRuleS : Ctx := ctx tyTab fiTab pl_laws_markRuleS
noncomputable def run_laws_markRuleS : Run := lim G_laws_markRuleS fid_laws_markRuleS
theorem ok_laws_markRuleS : FnOk Try.prog OkT fid_laws_markRuleS run_laws_markRuleS := lim_ok (l := pl_laws_markRuleS) Try_mix tyTab_ok fiTab_ok okT (.cons ok_laws_markStringS (.cons ok_laws_markText .nil)) fid_laws_markRuleS
noncomputable def laws_markRuleS_l0 (k m : Nat) : Nat → Cell → Int → Int → List Entry → Option Res
  | 0, _, _, _, _ => none
  | n + 1, c3, i4, i5, H6 =>
    (lenC c3).bind fun n7 =>
    cond (decide (i5 < (n7 : Int)))
    ((callS run_laws_markText [.one (Cell.int i4)] H6).bind fun r8 =>
    cond (shapeOk rk_laws_markText r8)
    ((cS (cellsAt r8 0) 0).bind fun s9 =>
    (idxA 5 (c3) i5).bind fun c10 =>
    (fldA c10 0).bind fun c11 =>
    (hStore H6 (c11) [Cell.str s9]).bind fun h12 =>
    (idxA 5 (c3) i5).bind fun c13 =>
    (fldA c13 1).bind fun c14 =>
    (deref h12 (c14)).bind fun p15 =>
    (cC p15.1 p15.2).bind fun c16 =>
    (run_laws_markStringS [.one (c16), .one (Cell.int (IntKind.i64.wrap (i4 + 1)))] h12).bind fun r17 =>
    cond (shapeOk rk_laws_markStringS r17.1)
    ((cI .i64 (cellsAt r17.1 0) 0).bind fun i18 =>
    (idxA 5 (c3) i5).bind fun c19 =>
    (fldA c19 2).bind fun c20 =>
    (deref r17.2 (c20)).bind fun p21 =>
    (cC p21.1 p21.2).bind fun c22 =>
    (run_laws_markStringS [.one (c22), .one (Cell.int i18)] r17.2).bind fun r23 =>
    cond (shapeOk rk_laws_markStringS r23.1)
    ((cI .i64 (cellsAt r23.1 0) 0).bind fun i24 =>
    (idxA 5 (c3) i5).bind fun c25 =>
    (fldA c25 3).bind fun c26 =>
    (deref r23.2 (c26)).bind fun p27 =>
    (cC p27.1 p27.2).bind fun c28 =>
    (run_laws_markStringS [.one (c28), .one (Cell.int i24)] r23.2).bind fun r29 =>
    cond (shapeOk rk_laws_markStringS r29.1)
    ((cI .i64 (cellsAt r29.1 0) 0).bind fun i30 =>
    (idxA 5 (c3) i5).bind fun c31 =>
    (fldA c31 4).bind fun c32 =>
    (hStore r29.2 (c32) [Cell.bool ((i30.tmod 3) == 0)]).bind fun h33 =>
    laws_markRuleS_l0 k m n (c3) (IntKind.i64.wrap (i30 + 1)) (IntKind.i64.wrap (i5 + 1)) h33)
    none)
    none)
    none)
    none)
    (some ([.one (Cell.int i4)], H6))
noncomputable def laws_markRuleS (k m : Nat) (c1 : Cell) (i2 : Int) (H : List Entry) : Option Res :=
  laws_markRuleS_l0 k m m (c1) i2 0 H
noncomputable abbrev laws_markRuleS_l0_B (k m : Nat) : (Ex → Fr → Option Res) → Fr → Option Res := evC G_laws_markRuleS fi_laws_markRuleS (evF G_laws_markRuleS (k + 1)) m (sub [1, 0, 1, 2, 3] fi_laws_markRuleS.code) none
noncomputable abbrev laws_markRuleS_l0_K (k m : Nat) : Ex → Fr → Option Res := blockK 0 (seqK (evC G_laws_markRuleS fi_laws_markRuleS (evF G_laws_markRuleS (k + 1)) m (sub [1, 1] fi_laws_markRuleS.code) none) (retK G_laws_markRuleS fi_laws_markRuleS))
theorem laws_markRuleS_l0_eq (k m : Nat) : ∀ (n : Nat) (c3 : Cell) (i4 : Int) (i5 : Int) (H6 : List Entry), loopK (some [0, 1, 5]) (laws_markRuleS_l0_B k m) (laws_markRuleS_l0_K k m) n ⟨fT 51 0 [(0, .av (.one (c3))), (1, .av (.one (Cell.int i4))), (5, .av (.one (Cell.int i5)))], fX 51 0 [], H6⟩ = laws_markRuleS_l0 (k + 1) m n c3 i4 i5 H6 := by
  intro n
  induction n with
  | zero => intros; rfl
  | succ n ih =>
    intros
    simp only [laws_markRuleS_l0, ← ih]
    kernel_rfl
theorem laws_markRuleS_code (k m : Nat) (c1 : Cell) (i2 : Int) (H : List Entry) : evC G_laws_markRuleS fi_laws_markRuleS (evF G_laws_markRuleS (k + 1)) m fi_laws_markRuleS.code none (retK G_laws_markRuleS fi_laws_markRuleS) (enter fi_laws_markRuleS [.one (c1), .one (Cell.int i2)] H) = laws_markRuleS (k + 1) m c1 i2 H := by
  simp only [laws_markRuleS, ← laws_markRuleS_l0_eq k m]
  kernel_rfl
theorem laws_markRuleS_eq (k : Nat) (c1 : Cell) (i2 : Int) (H : List Entry) : evF G_laws_markRuleS (k + 2) fid_laws_markRuleS [.one (c1), .one (Cell.int i2)] H = laws_markRuleS (k + 1) (k + 1) c1 i2 H :=
  Eq.trans (by kernel_rfl) (laws_markRuleS_code k (k + 1) c1 i2 H)
theorem run_laws_markRuleS_of {c1 : Cell} {i2 : Int} {H : List Entry} {r : Res} (k : Nat) (h : laws_markRuleS (k + 1) (k + 1) c1 i2 H = some r) : run_laws_markRuleS [.one (c1), .one (Cell.int i2)] H = some r := lim_of ((laws_markRuleS_eq k c1 i2 H).trans h)
noncomputable def pl_laws_markRule : List (Nat × Run) := [(fid_laws_markStringS, run_laws_markStringS)]
noncomputable def G_laws_markRule : Ctx := ctx tyTab fiTab pl_laws_markRule
noncomputable def run_laws_markRule : Run := lim G_laws_markRule fid_laws_markRule
theorem ok_laws_markRule : FnOk Try.prog OkT fid_laws_markRule run_laws_markRule := lim_ok (l := pl_laws_markRule) Try_mix tyTab_ok fiTab_ok okT (.cons ok_laws_markStringS .nil) fid_laws_markRule
noncomputable def laws_markRule (k m : Nat) (s1 : ByteArray) (c2 : Cell) (c3 : Cell) (c4 : Cell) (b5 : Bool) (i6 : Int) (H : List Entry) : Option Res :=
  (run_laws_markStringS [.one (c2), .one (Cell.int i6)] H).bind fun r7 =>
  cond (shapeOk rk_laws_markStringS r7.1)
  ((cI .i64 (cellsAt r7.1 0) 0).bind fun i8 =>
  (run_laws_markStringS [.one (c3), .one (Cell.int i8)] r7.2).bind fun r9 =>
  cond (shapeOk rk_laws_markStringS r9.1)
  ((cI .i64 (cellsAt r9.1 0) 0).bind fun i10 =>
  (run_laws_markStringS [.one (c4), .one (Cell.int i10)] r9.2).bind fun r11 =>
  cond (shapeOk rk_laws_markStringS r11.1)
  ((cI .i64 (cellsAt r11.1 0) 0).bind fun i12 =>
  some ([.one (Cell.int i12)], r11.2))
  none)
  none)
  none
theorem laws_markRule_code (k m : Nat) (s1 : ByteArray) (c2 : Cell) (c3 : Cell) (c4 : Cell) (b5 : Bool) (i6 : Int) (H : List Entry) : evC G_laws_markRule fi_laws_markRule (evF G_laws_markRule (k + 1)) m fi_laws_markRule.code none (retK G_laws_markRule fi_laws_markRule) (enter fi_laws_markRule [.agg [Cell.str s1, c2, c3, c4, Cell.bool b5], .one (Cell.int i6)] H) = laws_markRule (k + 1) m s1 c2 c3 c4 b5 i6 H := by
  kernel_rfl
theorem laws_markRule_eq (k : Nat) (s1 : ByteArray) (c2 : Cell) (c3 : Cell) (c4 : Cell) (b5 : Bool) (i6 : Int) (H : List Entry) : evF G_laws_markRule (k + 2) fid_laws_markRule [.agg [Cell.str s1, c2, c3, c4, Cell.bool b5], .one (Cell.int i6)] H = laws_markRule (k + 1) (k + 1) s1 c2 c3 c4 b5 i6 H :=
  Eq.trans (by kernel_rfl) (laws_markRule_code k (k + 1) s1 c2 c3 c4 b5 i6 H)
theorem run_laws_markRule_of {s1 : ByteArray} {c2 : Cell} {c3 : Cell} {c4 : Cell} {b5 : Bool} {i6 : Int} {H : List Entry} {r : Res} (k : Nat) (h : laws_markRule (k + 1) (k + 1) s1 c2 c3 c4 b5 i6 H = some r) : run_laws_markRule [.agg [Cell.str s1, c2, c3, c4, Cell.bool b5], .one (Cell.int i6)] H = some r := lim_of ((laws_markRule_eq k s1 c2 c3 c4 b5 i6 H).trans h)
noncomputable def pl_laws_heldStringS : List (Nat × Run) := [(fid_laws_markText, run_laws_markText)]
noncomputable def G_laws_heldStringS : Ctx := ctx tyTab fiTab pl_laws_heldStringS
noncomputable def run_laws_heldStringS : Run := lim G_laws_heldStringS fid_laws_heldStringS
theorem ok_laws_heldStringS : FnOk Try.prog OkT fid_laws_heldStringS run_laws_heldStringS := lim_ok (l := pl_laws_heldStringS) Try_mix tyTab_ok fiTab_ok okT (.cons ok_laws_markText .nil) fid_laws_heldStringS
noncomputable def laws_heldStringS_l0 (k m : Nat) : Nat → Cell → Int → Int → Option Res
  | 0, _, _, _ => none
  | n + 1, c3, i4, i5 =>
    (lenC c3).bind fun n6 =>
    cond (decide (i5 < (n6 : Int)))
    ((idxA 1 (c3) i5).bind fun c7 =>
    (deref [] (c7)).bind fun p8 =>
    (cS p8.1 p8.2).bind fun s9 =>
    (callS run_laws_markText [.one (Cell.int i4)] []).bind fun r10 =>
    cond (shapeOk rk_laws_markText r10)
    ((cS (cellsAt r10 0) 0).bind fun s11 =>
    cond (!(s9.toList == s11.toList))
    (some ([.one (Cell.int (-1))], []))
    (laws_heldStringS_l0 k m n (c3) (IntKind.i64.wrap (i4 + 1)) (IntKind.i64.wrap (i5 + 1))))
    none)
    (some ([.one (Cell.int i4)], []))
noncomputable def laws_heldStringS (k m : Nat) (c1 : Cell) (i2 : Int) : Option Res :=
  laws_heldStringS_l0 k m m (c1) i2 0
noncomputable abbrev laws_heldStringS_l0_B (k m : Nat) : (Ex → Fr → Option Res) → Fr → Option Res := evC G_laws_heldStringS fi_laws_heldStringS (evF G_laws_heldStringS (k + 1)) m (sub [1, 0, 1, 2, 3] fi_laws_heldStringS.code) none
noncomputable abbrev laws_heldStringS_l0_K (k m : Nat) : Ex → Fr → Option Res := blockK 0 (seqK (evC G_laws_heldStringS fi_laws_heldStringS (evF G_laws_heldStringS (k + 1)) m (sub [1, 1] fi_laws_heldStringS.code) none) (retK G_laws_heldStringS fi_laws_heldStringS))
theorem laws_heldStringS_l0_eq (k m : Nat) : ∀ (n : Nat) (c3 : Cell) (i4 : Int) (i5 : Int), loopK (some [0, 1, 5]) (laws_heldStringS_l0_B k m) (laws_heldStringS_l0_K k m) n ⟨fT 22 0 [(0, .av (.one (c3))), (1, .av (.one (Cell.int i4))), (5, .av (.one (Cell.int i5)))], fX 22 0 [], []⟩ = laws_heldStringS_l0 (k + 1) m n c3 i4 i5 := by
  intro n
  induction n with
  | zero => intros; rfl
  | succ n ih =>
    intros
    simp only [laws_heldStringS_l0, ← ih]
    kernel_rfl
theorem laws_heldStringS_code (k m : Nat) (c1 : Cell) (i2 : Int) : evC G_laws_heldStringS fi_laws_heldStringS (evF G_laws_heldStringS (k + 1)) m fi_laws_heldStringS.code none (retK G_laws_heldStringS fi_laws_heldStringS) (enter fi_laws_heldStringS [.one (c1), .one (Cell.int i2)] []) = laws_heldStringS (k + 1) m c1 i2 := by
  simp only [laws_heldStringS, ← laws_heldStringS_l0_eq k m]
  kernel_rfl
theorem laws_heldStringS_eq (k : Nat) (c1 : Cell) (i2 : Int) : evF G_laws_heldStringS (k + 2) fid_laws_heldStringS [.one (c1), .one (Cell.int i2)] [] = laws_heldStringS (k + 1) (k + 1) c1 i2 :=
  Eq.trans (by kernel_rfl) (laws_heldStringS_code k (k + 1) c1 i2)
theorem run_laws_heldStringS_of {c1 : Cell} {i2 : Int} {r : Res} (k : Nat) (h : laws_heldStringS (k + 1) (k + 1) c1 i2 = some r) : run_laws_heldStringS [.one (c1), .one (Cell.int i2)] [] = some r := lim_of ((laws_heldStringS_eq k c1 i2).trans h)
noncomputable def pl_laws_heldRule : List (Nat × Run) := [(fid_laws_heldStringS, run_laws_heldStringS)]
noncomputable def G_laws_heldRule : Ctx := ctx tyTab fiTab pl_laws_heldRule
noncomputable def run_laws_heldRule : Run := lim G_laws_heldRule fid_laws_heldRule
theorem ok_laws_heldRule : FnOk Try.prog OkT fid_laws_heldRule run_laws_heldRule := lim_ok (l := pl_laws_heldRule) Try_mix tyTab_ok fiTab_ok okT (.cons ok_laws_heldStringS .nil) fid_laws_heldRule
noncomputable def laws_heldRule (k m : Nat) (s1 : ByteArray) (c2 : Cell) (c3 : Cell) (c4 : Cell) (b5 : Bool) (i6 : Int) : Option Res :=
  (callS run_laws_heldStringS [.one (c2), .one (Cell.int i6)] []).bind fun r7 =>
  cond (shapeOk rk_laws_heldStringS r7)
  ((cI .i64 (cellsAt r7 0) 0).bind fun i8 =>
  cond (decide (i8 < 0))
  (some ([.one (Cell.int (-1))], []))
  ((callS run_laws_heldStringS [.one (c3), .one (Cell.int i8)] []).bind fun r9 =>
  cond (shapeOk rk_laws_heldStringS r9)
  ((cI .i64 (cellsAt r9 0) 0).bind fun i10 =>
  cond (decide (i10 < 0))
  (some ([.one (Cell.int (-1))], []))
  ((callS run_laws_heldStringS [.one (c4), .one (Cell.int i10)] []).bind fun r11 =>
  cond (shapeOk rk_laws_heldStringS r11)
  ((cI .i64 (cellsAt r11 0) 0).bind fun i12 =>
  cond (decide (i12 < 0))
  (some ([.one (Cell.int (-1))], []))
  (some ([.one (Cell.int i12)], [])))
  none))
  none))
  none
theorem laws_heldRule_code (k m : Nat) (s1 : ByteArray) (c2 : Cell) (c3 : Cell) (c4 : Cell) (b5 : Bool) (i6 : Int) : evC G_laws_heldRule fi_laws_heldRule (evF G_laws_heldRule (k + 1)) m fi_laws_heldRule.code none (retK G_laws_heldRule fi_laws_heldRule) (enter fi_laws_heldRule [.agg [Cell.str s1, c2, c3, c4, Cell.bool b5], .one (Cell.int i6)] []) = laws_heldRule (k + 1) m s1 c2 c3 c4 b5 i6 := by
  kernel_rfl
theorem laws_heldRule_eq (k : Nat) (s1 : ByteArray) (c2 : Cell) (c3 : Cell) (c4 : Cell) (b5 : Bool) (i6 : Int) : evF G_laws_heldRule (k + 2) fid_laws_heldRule [.agg [Cell.str s1, c2, c3, c4, Cell.bool b5], .one (Cell.int i6)] [] = laws_heldRule (k + 1) (k + 1) s1 c2 c3 c4 b5 i6 :=
  Eq.trans (by kernel_rfl) (laws_heldRule_code k (k + 1) s1 c2 c3 c4 b5 i6)
theorem run_laws_heldRule_of {s1 : ByteArray} {c2 : Cell} {c3 : Cell} {c4 : Cell} {b5 : Bool} {i6 : Int} {r : Res} (k : Nat) (h : laws_heldRule (k + 1) (k + 1) s1 c2 c3 c4 b5 i6 = some r) : run_laws_heldRule [.agg [Cell.str s1, c2, c3, c4, Cell.bool b5], .one (Cell.int i6)] [] = some r := lim_of ((laws_heldRule_eq k s1 c2 c3 c4 b5 i6).trans h)
end Go.Ev
