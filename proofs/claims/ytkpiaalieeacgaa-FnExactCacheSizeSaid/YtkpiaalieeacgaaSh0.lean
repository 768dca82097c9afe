/- What the evaluator says of the functions, each as a Lean function over cells. Printed by a program of this claim. Conditions: none. -/
import Derived.Test.YtkpiaalieeacgaaEvPr
import Derived.KernelRfl
namespace Go.Ev
open Go Go.Proofs
set_option maxRecDepth 100000
set_option linter.unusedVariables false
set_option linter.unusedSimpArgs false
noncomputable def pl_laws_szByteS : List (Nat × Run) := []
noncomputable def G_laws_szByteS : Ctx := ctx tyTab fiTab pl_laws_szByteS
noncomputable def run_laws_szByteS : Run := lim G_laws_szByteS fid_laws_szByteS
theorem ok_laws_szByteS : FnOk Try.prog OkT fid_laws_szByteS run_laws_szByteS := lim_ok (l := pl_laws_szByteS) Try_mix tyTab_ok fiTab_ok okT .nil fid_laws_szByteS
noncomputable def laws_szByteS (k m : Nat) (c1 : Cell) (i2 : Int) : Option Res :=
  (lenC c1).bind fun n3 =>
  cond (decide ((IntKind.i64.wrap (i2 - (n3 : Int))) < 0))
  (some ([.one (Cell.int (-1))], []))
  (some ([.one (Cell.int (IntKind.i64.wrap (i2 - (n3 : Int))))], []))
theorem laws_szByteS_code (k m : Nat) (c1 : Cell) (i2 : Int) : evC G_laws_szByteS fi_laws_szByteS (evF G_laws_szByteS (k + 1)) m fi_laws_szByteS.code none (retK G_laws_szByteS fi_laws_szByteS) (enter fi_laws_szByteS [.one (c1), .one (Cell.int i2)] []) = laws_szByteS (k + 1) m c1 i2 := by
  kernel_rfl
theorem laws_szByteS_eq (k : Nat) (c1 : Cell) (i2 : Int) : evF G_laws_szByteS (k + 2) fid_laws_szByteS [.one (c1), .one (Cell.int i2)] [] = laws_szByteS (k + 1) (k + 1) c1 i2 :=
  Eq.trans (by kernel_rfl) (laws_szByteS_code k (k + 1) c1 i2)
theorem run_laws_szByteS_of {c1 : Cell} {i2 : Int} {r : Res} (k : Nat) (h : laws_szByteS (k + 1) (k + 1) c1 i2 = some r) : run_laws_szByteS [.one (c1), .one (Cell.int i2)] [] = some r := lim_of ((laws_szByteS_eq k c1 i2).trans h)
noncomputable def pl_laws_szSlot : List (Nat × Run) := [(fid_laws_szByteS, run_laws_szByteS)]
noncomputable def G_laws_szSlot : Ctx := ctx tyTab fiTab pl_laws_szSlot
noncomputable def run_laws_szSlot : Run := lim G_laws_szSlot fid_laws_szSlot
theorem ok_laws_szSlot : FnOk Try.prog OkT fid_laws_szSlot run_laws_szSlot := lim_ok (l := pl_laws_szSlot) Try_mix tyTab_ok fiTab_ok okT (.cons ok_laws_szByteS .nil) fid_laws_szSlot
noncomputable def laws_szSlot (k m : Nat) (c1 : Cell) (c2 : Cell) (i3 : Int) : Option Res :=
  (callS run_laws_szByteS [.one (c1), .one (Cell.int i3)] []).bind fun r4 =>
  cond (shapeOk rk_laws_szByteS r4)
  ((cI .i64 (cellsAt r4 0) 0).bind fun i5 =>
  cond (decide (i5 < 0))
  (some ([.one (Cell.int (-1))], []))
  ((callS run_laws_szByteS [.one (c2), .one (Cell.int i5)] []).bind fun r6 =>
  cond (shapeOk rk_laws_szByteS r6)
  ((cI .i64 (cellsAt r6 0) 0).bind fun i7 =>
  cond (decide (i7 < 0))
  (some ([.one (Cell.int (-1))], []))
  (some ([.one (Cell.int i7)], [])))
  none))
  none
theorem laws_szSlot_code (k m : Nat) (c1 : Cell) (c2 : Cell) (i3 : Int) : evC G_laws_szSlot fi_laws_szSlot (evF G_laws_szSlot (k + 1)) m fi_laws_szSlot.code none (retK G_laws_szSlot fi_laws_szSlot) (enter fi_laws_szSlot [.agg [c1, c2], .one (Cell.int i3)] []) = laws_szSlot (k + 1) m c1 c2 i3 := by
  kernel_rfl
theorem laws_szSlot_eq (k : Nat) (c1 : Cell) (c2 : Cell) (i3 : Int) : evF G_laws_szSlot (k + 2) fid_laws_szSlot [.agg [c1, c2], .one (Cell.int i3)] [] = laws_szSlot (k + 1) (k + 1) c1 c2 i3 :=
  Eq.trans (by kernel_rfl) (laws_szSlot_code k (k + 1) c1 c2 i3)
theorem run_laws_szSlot_of {c1 : Cell} {c2 : Cell} {i3 : Int} {r : Res} (k : Nat) (h : laws_szSlot (k + 1) (k + 1) c1 c2 i3 = some r) : run_laws_szSlot [.agg [c1, c2], .one (Cell.int i3)] [] = some r := lim_of ((laws_szSlot_eq k c1 c2 i3).trans h)
noncomputable def pl_laws_szSlotS : List (Nat × Run) := [(fid_laws_szSlot, run_laws_szSlot)]
noncomputable def G_laws_szSlotS : Ctx := ctx tyTab fiTab pl_laws_szSlotS
noncomputable def run_laws_szSlotS : Run := lim G_laws_szSlotS fid_laws_szSlotS
theorem ok_laws_szSlotS : FnOk Try.prog OkT fid_laws_szSlotS run_laws_szSlotS := lim_ok (l := pl_laws_szSlotS) Try_mix tyTab_ok fiTab_ok okT (.cons ok_laws_szSlot .nil) fid_laws_szSlotS
noncomputable def laws_szSlotS_l0 (k m : Nat) : Nat → Cell → Int → Int → Option Res
  | 0, _, _, _ => none
  | n + 1, c4, i5, i6 =>
    (lenC c4).bind fun n7 =>
    cond (decide (i6 < (n7 : Int)))
    ((idxA 2 (c4) i6).bind fun c8 =>
    (deref [] (c8)).bind fun p9 =>
    (cC p9.1 p9.2).bind fun c10 =>
    (cC p9.1 (p9.2 + 1)).bind fun c11 =>
    (callS run_laws_szSlot [.agg [c10, c11], .one (Cell.int i5)] []).bind fun r12 =>
    cond (shapeOk rk_laws_szSlot r12)
    ((cI .i64 (cellsAt r12 0) 0).bind fun i13 =>
    cond (decide (i13 < 0))
    (some ([.one (Cell.int (-1))], []))
    (laws_szSlotS_l0 k m n (c4) i13 (IntKind.i64.wrap (i6 + 1))))
    none)
    (some ([.one (Cell.int i5)], []))
noncomputable def laws_szSlotS (k m : Nat) (c1 : Cell) (i2 : Int) : Option Res :=
  (lenC c1).bind fun n3 =>
  cond (decide ((IntKind.i64.wrap (i2 - (n3 : Int))) < 0))
  (some ([.one (Cell.int (-1))], []))
  (laws_szSlotS_l0 k m m (c1) (IntKind.i64.wrap (i2 - (n3 : Int))) 0)
noncomputable abbrev laws_szSlotS_l0_B (k m : Nat) : (Ex → Fr → Option Res) → Fr → Option Res := evC G_laws_szSlotS fi_laws_szSlotS (evF G_laws_szSlotS (k + 1)) m (sub [1, 1, 1, 0, 1, 2, 3] fi_laws_szSlotS.code) none
noncomputable abbrev laws_szSlotS_l0_K (k m : Nat) : Ex → Fr → Option Res := blockK 0 (seqK (evC G_laws_szSlotS fi_laws_szSlotS (evF G_laws_szSlotS (k + 1)) m (sub [1, 1, 1, 1] fi_laws_szSlotS.code) none) (retK G_laws_szSlotS fi_laws_szSlotS))
theorem laws_szSlotS_l0_eq (k m : Nat) : ∀ (n : Nat) (c4 : Cell) (i5 : Int) (i6 : Int), loopK (some [0, 1, 5]) (laws_szSlotS_l0_B k m) (laws_szSlotS_l0_K k m) n ⟨fT 27 0 [(0, .av (.one (c4))), (1, .av (.one (Cell.int i5))), (5, .av (.one (Cell.int i6)))], fX 27 0 [], []⟩ = laws_szSlotS_l0 (k + 1) m n c4 i5 i6 := by
  intro n
  induction n with
  | zero => intros; rfl
  | succ n ih =>
    intros
    simp only [laws_szSlotS_l0, ← ih]
    kernel_rfl
theorem laws_szSlotS_code (k m : Nat) (c1 : Cell) (i2 : Int) : evC G_laws_szSlotS fi_laws_szSlotS (evF G_laws_szSlotS (k + 1)) m fi_laws_szSlotS.code none (retK G_laws_szSlotS fi_laws_szSlotS) (enter fi_laws_szSlotS [.one (c1), .one (Cell.int i2)] []) = laws_szSlotS (k + 1) m c1 i2 := by
  simp only [laws_szSlotS, ← laws_szSlotS_l0_eq k m]
  kernel_rfl
theorem laws_szSlotS_eq (k : Nat) (c1 : Cell) (i2 : Int) : evF G_laws_szSlotS (k + 2) fid_laws_szSlotS [.one (c1), .one (Cell.int i2)] [] = laws_szSlotS (k + 1) (k + 1) c1 i2 :=
  Eq.trans (by kernel_rfl) (laws_szSlotS_code k (k + 1) c1 i2)
theorem run_laws_szSlotS_of {c1 : Cell} {i2 : Int} {r : Res} (k : Nat) (h : laws_szSlotS (k + 1) (k + 1) c1 i2 = some r) : run_laws_szSlotS [.one (c1), .one (Cell.int i2)] [] = some r := lim_of ((laws_szSlotS_eq k c1 i2).trans h)
noncomputable def pl_spec_CacheSize : List (Nat × Run) := []
noncomputable def G_spec_CacheSize : Ctx := ctx tyTab fiTab pl_spec_CacheSize
noncomputable def run_spec_CacheSize : Run := lim G_spec_CacheSize fid_spec_CacheSize
theorem ok_spec_CacheSize : FnOk Try.prog OkT fid_spec_CacheSize run_spec_CacheSize := lim_ok (l := pl_spec_CacheSize) Try_mix tyTab_ok fiTab_ok okT .nil fid_spec_CacheSize
noncomputable def spec_CacheSize_l0 (k m : Nat) : Nat → Cell → Int → Int → Option Res
  | 0, _, _, _ => none
  | n + 1, c2, i3, i4 =>
    (lenC c2).bind fun n5 =>
    cond (decide (i4 < (n5 : Int)))
    ((idxA 2 (c2) i4).bind fun c6 =>
    (fldA c6 1).bind fun c7 =>
    (deref [] (c7)).bind fun p8 =>
    (cC p8.1 p8.2).bind fun c9 =>
    (lenC c9).bind fun n10 =>
    spec_CacheSize_l0 k m n (c2) (IntKind.i64.wrap (i3 + (n10 : Int))) (IntKind.i64.wrap (i4 + 1)))
    (some ([.one (Cell.int i3)], []))
noncomputable def spec_CacheSize (k m : Nat) (c1 : Cell) : Option Res :=
  spec_CacheSize_l0 k m m (c1) 0 0
noncomputable abbrev spec_CacheSize_l0_B (k m : Nat) : (Ex → Fr → Option Res) → Fr → Option Res := evC G_spec_CacheSize fi_spec_CacheSize (evF G_spec_CacheSize (k + 1)) m (sub [1, 1, 0, 1, 2, 3] fi_spec_CacheSize.code) none
noncomputable abbrev spec_CacheSize_l0_K (k m : Nat) : Ex → Fr → Option Res := blockK 0 (seqK (evC G_spec_CacheSize fi_spec_CacheSize (evF G_spec_CacheSize (k + 1)) m (sub [1, 1, 1] fi_spec_CacheSize.code) none) (retK G_spec_CacheSize fi_spec_CacheSize))
theorem spec_CacheSize_l0_eq (k m : Nat) : ∀ (n : Nat) (c2 : Cell) (i3 : Int) (i4 : Int), loopK (some [0, 3, 4]) (spec_CacheSize_l0_B k m) (spec_CacheSize_l0_K k m) n ⟨fT 20 0 [(0, .av (.one (c2))), (3, .av (.one (Cell.int i3))), (4, .av (.one (Cell.int i4)))], fX 20 0 [], []⟩ = spec_CacheSize_l0 (k + 1) m n c2 i3 i4 := by
  intro n
  induction n with
  | zero => intros; rfl
  | succ n ih =>
    intros
    simp only [spec_CacheSize_l0, ← ih]
    kernel_rfl
theorem spec_CacheSize_code (k m : Nat) (c1 : Cell) : evC G_spec_CacheSize fi_spec_CacheSize (evF G_spec_CacheSize (k + 1)) m fi_spec_CacheSize.code none (retK G_spec_CacheSize fi_spec_CacheSize) (enter fi_spec_CacheSize [.one (c1)] []) = spec_CacheSize (k + 1) m c1 := by
  simp only [spec_CacheSize, ← spec_CacheSize_l0_eq k m]
  kernel_rfl
theorem spec_CacheSize_eq (k : Nat) (c1 : Cell) : evF G_spec_CacheSize (k + 2) fid_spec_CacheSize [.one (c1)] [] = spec_CacheSize (k + 1) (k + 1) c1 :=
  Eq.trans (by kernel_rfl) (spec_CacheSize_code k (k + 1) c1)
theorem run_spec_CacheSize_of {c1 : Cell} {r : Res} (k : Nat) (h : spec_CacheSize (k + 1) (k + 1) c1 = some r) : run_spec_CacheSize [.one (c1)] [] = some r := lim_of ((spec_CacheSize_eq k c1).trans h)
noncomputable def pl_laws_toByteS : List (Nat × Run) := []
noncomputable def G_laws_toByteS : Ctx := ctx tyTab fiTab pl_laws_toByteS
noncomputable def run_laws_toByteS : Run := lim G_laws_toByteS fid_laws_toByteS
theorem ok_laws_toByteS : FnOk Try.prog OkT fid_laws_toByteS run_laws_toByteS := lim_ok (l := pl_laws_toByteS) Try_mix tyTab_ok fiTab_ok okT .nil fid_laws_toByteS
noncomputable def laws_toByteS_l0 (k m : Nat) : Nat → Cell → Cell → Int → List Entry → Option Res
  | 0, _, _, _, _ => none
  | n + 1, c3, c4, i5, H6 =>
    (lenC c3).bind fun n7 =>
    cond (decide (i5 < (n7 : Int)))
    ((idxA 1 (c3) i5).bind fun c8 =>
    (deref H6 (c8)).bind fun p9 =>
    (cI .u8 p9.1 p9.2).bind fun i10 =>
    (idxA 1 (c4) i5).bind fun c11 =>
    (hStore H6 (c11) [.sc (.int .u8 i10)]).bind fun h12 =>
    laws_toByteS_l0 k m n (c3) (c4) (IntKind.i64.wrap (i5 + 1)) h12)
    (some ([.one (c4)], H6))
noncomputable def laws_toByteS (k m : Nat) (c1 : Cell) : Option Res :=
  (lenC c1).bind fun n2 =>
  if 0 ≤ (n2 : Int) ∧ (n2 : Int) ≤ (n2 : Int) ∧ (n2 : Int) * 1 ≤ bound ∧ (n2 : Int) ≤ bound then
  (laws_toByteS_l0 k m m (c1) ((.vs 0 1 0 (n2 : Int).toNat 0)) 0 [Entry.mk 1 (mkRows (n2 : Int).toNat [.sc (.int .u8 0)]) 0 false]) else none
noncomputable abbrev laws_toByteS_l0_B (k m : Nat) : (Ex → Fr → Option Res) → Fr → Option Res := evC G_laws_toByteS fi_laws_toByteS (evF G_laws_toByteS (k + 1)) m (sub [1, 1, 0, 1, 2, 3] fi_laws_toByteS.code) none
noncomputable abbrev laws_toByteS_l0_K (k m : Nat) : Ex → Fr → Option Res := blockK 0 (seqK (evC G_laws_toByteS fi_laws_toByteS (evF G_laws_toByteS (k + 1)) m (sub [1, 1, 1] fi_laws_toByteS.code) none) (retK G_laws_toByteS fi_laws_toByteS))
theorem laws_toByteS_l0_eq (k m : Nat) : ∀ (n : Nat) (c3 : Cell) (c4 : Cell) (i5 : Int) (H6 : List Entry), loopK (some [0, 3, 4]) (laws_toByteS_l0_B k m) (laws_toByteS_l0_K k m) n ⟨fT 22 0 [(0, .av (.one (c3))), (3, .av (.one (c4))), (4, .av (.one (Cell.int i5)))], fX 22 0 [], H6⟩ = laws_toByteS_l0 (k + 1) m n c3 c4 i5 H6 := by
  intro n
  induction n with
  | zero => intros; rfl
  | succ n ih =>
    intros
    simp only [laws_toByteS_l0, ← ih]
    kernel_rfl
theorem laws_toByteS_code (k m : Nat) (c1 : Cell) : evC G_laws_toByteS fi_laws_toByteS (evF G_laws_toByteS (k + 1)) m fi_laws_toByteS.code none (retK G_laws_toByteS fi_laws_toByteS) (enter fi_laws_toByteS [.one (c1)] []) = laws_toByteS (k + 1) m c1 := by
  simp only [laws_toByteS, ← laws_toByteS_l0_eq k m]
  kernel_rfl
theorem laws_toByteS_eq (k : Nat) (c1 : Cell) : evF G_laws_toByteS (k + 2) fid_laws_toByteS [.one (c1)] [] = laws_toByteS (k + 1) (k + 1) c1 :=
  Eq.trans (by kernel_rfl) (laws_toByteS_code k (k + 1) c1)
theorem run_laws_toByteS_of {c1 : Cell} {r : Res} (k : Nat) (h : laws_toByteS (k + 1) (k + 1) c1 = some r) : run_laws_toByteS [.one (c1)] [] = some r := lim_of ((laws_toByteS_eq k c1).trans h)
noncomputable def pl_laws_toSlot : List (Nat × Run) := [(fid_laws_toByteS, run_laws_toByteS)]
noncomputable def G_laws_toSlot : Ctx := ctx tyTab fiTab pl_laws_toSlot
noncomputable def run_laws_toSlot : Run := lim G_laws_toSlot fid_laws_toSlot
theorem ok_laws_toSlot : FnOk Try.prog OkT fid_laws_toSlot run_laws_toSlot := lim_ok (l := pl_laws_toSlot) Try_mix tyTab_ok fiTab_ok okT (.cons ok_laws_toByteS .nil) fid_laws_toSlot
noncomputable def laws_toSlot (k m : Nat) (c1 : Cell) (c2 : Cell) : Option Res :=
  (callL run_laws_toByteS [.one (c1)] []).bind fun r3 =>
  cond (shapeOk rk_laws_toByteS r3.1)
  ((cC (cellsAt r3.1 0) 0).bind fun c4 =>
  (callL run_laws_toByteS [.one (c2)] r3.2).bind fun r5 =>
  cond (shapeOk rk_laws_toByteS r5.1)
  ((cC (cellsAt r5.1 0) 0).bind fun c6 =>
  some ([.agg [c4, c6]], r5.2))
  none)
  none
theorem laws_toSlot_code (k m : Nat) (c1 : Cell) (c2 : Cell) : evC G_laws_toSlot fi_laws_toSlot (evF G_laws_toSlot (k + 1)) m fi_laws_toSlot.code none (retK G_laws_toSlot fi_laws_toSlot) (enter fi_laws_toSlot [.agg [c1, c2]] []) = laws_toSlot (k + 1) m c1 c2 := by
  kernel_rfl
theorem laws_toSlot_eq (k : Nat) (c1 : Cell) (c2 : Cell) : evF G_laws_toSlot (k + 2) fid_laws_toSlot [.agg [c1, c2]] [] = laws_toSlot (k + 1) (k + 1) c1 c2 :=
  Eq.trans (by kernel_rfl) (laws_toSlot_code k (k + 1) c1 c2)
theorem run_laws_toSlot_of {c1 : Cell} {c2 : Cell} {r : Res} (k : Nat) (h : laws_toSlot (k + 1) (k + 1) c1 c2 = some r) : run_laws_toSlot [.agg [c1, c2]] [] = some r := lim_of ((laws_toSlot_eq k c1 c2).trans h)
noncomputable def pl_laws_toSlotS : List (Nat × Run) := [(fid_laws_toSlot, run_laws_toSlot)]
noncomputable def G_laws_toSlotS : Ctx := ctx tyTab fiTab pl_laws_toSlotS
noncomputable def run_laws_toSlotS : Run := lim G_laws_toSlotS fid_laws_toSlotS
theorem ok_laws_toSlotS : FnOk Try.prog OkT fid_laws_toSlotS run_laws_toSlotS := lim_ok (l := pl_laws_toSlotS) Try_mix tyTab_ok fiTab_ok okT (.cons ok_laws_toSlot .nil) fid_laws_toSlotS
noncomputable def laws_toSlotS_l0 (k m : Nat) : Nat → Cell → Cell → Int → List Entry → Option Res
  | 0, _, _, _, _ => none
  | n + 1, c3, c4, i5, H6 =>
    (lenC c3).bind fun n7 =>
    cond (decide (i5 < (n7 : Int)))
    ((idxA 2 (c3) i5).bind fun c8 =>
    (deref H6 (c8)).bind fun p9 =>
    (cC p9.1 p9.2).bind fun c10 =>
    (cC p9.1 (p9.2 + 1)).bind fun c11 =>
    (callL run_laws_toSlot [.agg [c10, c11]] H6).bind fun r12 =>
    cond (shapeOk rk_laws_toSlot r12.1)
    ((cC (cellsAt r12.1 0) 0).bind fun c13 =>
    (cC (cellsAt r12.1 0) 1).bind fun c14 =>
    (idxA 2 (c4) i5).bind fun c15 =>
    (hStore r12.2 (c15) [c13, c14]).bind fun h16 =>
    laws_toSlotS_l0 k m n (c3) (c4) (IntKind.i64.wrap (i5 + 1)) h16)
    none)
    (some ([.one (c4)], H6))
noncomputable def laws_toSlotS (k m : Nat) (c1 : Cell) : Option Res :=
  (lenC c1).bind fun n2 =>
  if 0 ≤ (n2 : Int) ∧ (n2 : Int) ≤ (n2 : Int) ∧ (n2 : Int) * 48 ≤ bound ∧ (n2 : Int) ≤ bound then
  (laws_toSlotS_l0 k m m (c1) ((.vs 0 2 0 (n2 : Int).toNat 0)) 0 [Entry.mk 2 (mkRows (n2 : Int).toNat [.lst true 1 [], .lst true 1 []]) 0 false]) else none
noncomputable abbrev laws_toSlotS_l0_B (k m : Nat) : (Ex → Fr → Option Res) → Fr → Option Res := evC G_laws_toSlotS fi_laws_toSlotS (evF G_laws_toSlotS (k + 1)) m (sub [1, 1, 0, 1, 2, 3] fi_laws_toSlotS.code) none
noncomputable abbrev laws_toSlotS_l0_K (k m : Nat) : Ex → Fr → Option Res := blockK 0 (seqK (evC G_laws_toSlotS fi_laws_toSlotS (evF G_laws_toSlotS (k + 1)) m (sub [1, 1, 1] fi_laws_toSlotS.code) none) (retK G_laws_toSlotS fi_laws_toSlotS))
theorem laws_toSlotS_l0_eq (k m : Nat) : ∀ (n : Nat) (c3 : Cell) (c4 : Cell) (i5 : Int) (H6 : List Entry), loopK (some [0, 3, 4]) (laws_toSlotS_l0_B k m) (laws_toSlotS_l0_K k m) n ⟨fT 23 0 [(0, .av (.one (c3))), (3, .av (.one (c4))), (4, .av (.one (Cell.int i5)))], fX 23 0 [], H6⟩ = laws_toSlotS_l0 (k + 1) m n c3 c4 i5 H6 := by
  intro n
  induction n with
  | zero => intros; rfl
  | succ n ih =>
    intros
    simp only [laws_toSlotS_l0, ← ih]
    kernel_rfl
theorem laws_toSlotS_code (k m : Nat) (c1 : Cell) : evC G_laws_toSlotS fi_laws_toSlotS (evF G_laws_toSlotS (k + 1)) m fi_laws_toSlotS.code none (retK G_laws_toSlotS fi_laws_toSlotS) (enter fi_laws_toSlotS [.one (c1)] []) = laws_toSlotS (k + 1) m c1 := by
  simp only [laws_toSlotS, ← laws_toSlotS_l0_eq k m]
  kernel_rfl
theorem laws_toSlotS_eq (k : Nat) (c1 : Cell) : evF G_laws_toSlotS (k + 2) fid_laws_toSlotS [.one (c1)] [] = laws_toSlotS (k + 1) (k + 1) c1 :=
  Eq.trans (by kernel_rfl) (laws_toSlotS_code k (k + 1) c1)
theorem run_laws_toSlotS_of {c1 : Cell} {r : Res} (k : Nat) (h : laws_toSlotS (k + 1) (k + 1) c1 = some r) : run_laws_toSlotS [.one (c1)] [] = some r := lim_of ((laws_toSlotS_eq k c1).trans h)
noncomputable def pl_impl_CacheSize : List (Nat × Run) := []
noncomputable def G_impl_CacheSize : Ctx := ctx tyTab fiTab pl_impl_CacheSize
noncomputable def run_impl_CacheSize : Run := lim G_impl_CacheSize fid_impl_CacheSize
theorem ok_impl_CacheSize : FnOk Try.prog OkT fid_impl_CacheSize run_impl_CacheSize := lim_ok (l := pl_impl_CacheSize) Try_mix tyTab_ok fiTab_ok okT .nil fid_impl_CacheSize
noncomputable def impl_CacheSize_l0 (k m : Nat) : Nat → Int → Cell → Int → Int → Option Res
  | 0, _, _, _, _ => none
  | n + 1, i3, c4, i5, i6 =>
    cond (decide (i6 < i5))
    ((idxA 2 (c4) i6).bind fun c7 =>
    (deref [] (c7)).bind fun p8 =>
    (cC p8.1 p8.2).bind fun c9 =>
    (cC p8.1 (p8.2 + 1)).bind fun c10 =>
    (lenC c10).bind fun n11 =>
    impl_CacheSize_l0 k m n (IntKind.i64.wrap (i3 + (n11 : Int))) (c4) i5 (IntKind.i64.wrap (i6 + 1)))
    (some ([.one (Cell.int i3)], []))
noncomputable def impl_CacheSize (k m : Nat) (c1 : Cell) : Option Res :=
  (lenC c1).bind fun n2 =>
  impl_CacheSize_l0 k m m 0 (c1) (n2 : Int) 0
noncomputable abbrev impl_CacheSize_l0_B (k m : Nat) : (Ex → Fr → Option Res) → Fr → Option Res := evC G_impl_CacheSize fi_impl_CacheSize (evF G_impl_CacheSize (k + 1)) m (sub [1, 1, 0, 1, 2, 3] fi_impl_CacheSize.code) none
noncomputable abbrev impl_CacheSize_l0_K (k m : Nat) : Ex → Fr → Option Res := blockK 0 (seqK (evC G_impl_CacheSize fi_impl_CacheSize (evF G_impl_CacheSize (k + 1)) m (sub [1, 1, 1] fi_impl_CacheSize.code) none) (retK G_impl_CacheSize fi_impl_CacheSize))
theorem impl_CacheSize_l0_eq (k m : Nat) : ∀ (n : Nat) (i3 : Int) (c4 : Cell) (i5 : Int) (i6 : Int), loopK (some [3, 6, 7, 8]) (impl_CacheSize_l0_B k m) (impl_CacheSize_l0_K k m) n ⟨fT 19 0 [(3, .av (.one (Cell.int i3))), (6, .av (.one (c4))), (7, .av (.one (Cell.int i5))), (8, .av (.one (Cell.int i6)))], fX 19 0 [], []⟩ = impl_CacheSize_l0 (k + 1) m n i3 c4 i5 i6 := by
  intro n
  induction n with
  | zero => intros; rfl
  | succ n ih =>
    intros
    simp only [impl_CacheSize_l0, ← ih]
    kernel_rfl
theorem impl_CacheSize_code (k m : Nat) (c1 : Cell) : evC G_impl_CacheSize fi_impl_CacheSize (evF G_impl_CacheSize (k + 1)) m fi_impl_CacheSize.code none (retK G_impl_CacheSize fi_impl_CacheSize) (enter fi_impl_CacheSize [.one (c1)] []) = impl_CacheSize (k + 1) m c1 := by
  simp only [impl_CacheSize, ← impl_CacheSize_l0_eq k m]
  kernel_rfl
theorem impl_CacheSize_eq (k : Nat) (c1 : Cell) : evF G_impl_CacheSize (k + 2) fid_impl_CacheSize [.one (c1)] [] = impl_CacheSize (k + 1) (k + 1) c1 :=
  Eq.trans (by kernel_rfl) (impl_CacheSize_code k (k + 1) c1)
theorem run_impl_CacheSize_of {c1 : Cell} {r : Res} (k : Nat) (h : impl_CacheSize (k + 1) (k + 1) c1 = some r) : run_impl_CacheSize [.one (c1)] [] = some r := lim_of ((impl_CacheSize_eq k c1).trans h)
noncomputable def pl_laws_eqByteS : List (Nat × Run) := []
noncomputable def G_laws_eqByteS : Ctx := ctx tyTab fiTab pl_laws_eqByteS
noncomputable def run_laws_eqByteS : Run := lim G_laws_eqByteS fid_laws_eqByteS
theorem ok_laws_eqByteS : FnOk Try.prog OkT fid_laws_eqByteS run_laws_eqByteS := lim_ok (l := pl_laws_eqByteS) Try_mix tyTab_ok fiTab_ok okT .nil fid_laws_eqByteS
noncomputable def laws_eqByteS_l0 (k m : Nat) : Nat → Cell → Cell → Int → Option Res
  | 0, _, _, _ => none
  | n + 1, c5, c6, i7 =>
    (lenC c5).bind fun n8 =>
    cond (decide (i7 < (n8 : Int)))
    ((idxA 1 (c5) i7).bind fun c9 =>
    (deref [] (c9)).bind fun p10 =>
    (cI .u8 p10.1 p10.2).bind fun i11 =>
    (idxA 1 (c6) i7).bind fun c12 =>
    (deref [] (c12)).bind fun p13 =>
    (cI .u8 p13.1 p13.2).bind fun i14 =>
    cond (i11 != i14)
    (some ([.one (Cell.bool false)], []))
    (laws_eqByteS_l0 k m n (c5) (c6) (IntKind.i64.wrap (i7 + 1))))
    (some ([.one (Cell.bool true)], []))
noncomputable def laws_eqByteS (k m : Nat) (c1 : Cell) (c2 : Cell) : Option Res :=
  (lenC c1).bind fun n3 =>
  (lenC c2).bind fun n4 =>
  cond ((n3 : Int) != (n4 : Int))
  (some ([.one (Cell.bool false)], []))
  (laws_eqByteS_l0 k m m (c1) (c2) 0)
noncomputable abbrev laws_eqByteS_l0_B (k m : Nat) : (Ex → Fr → Option Res) → Fr → Option Res := evC G_laws_eqByteS fi_laws_eqByteS (evF G_laws_eqByteS (k + 1)) m (sub [1, 1, 0, 1, 2, 3] fi_laws_eqByteS.code) none
noncomputable abbrev laws_eqByteS_l0_K (k m : Nat) : Ex → Fr → Option Res := blockK 0 (seqK (evC G_laws_eqByteS fi_laws_eqByteS (evF G_laws_eqByteS (k + 1)) m (sub [1, 1, 1] fi_laws_eqByteS.code) none) (retK G_laws_eqByteS fi_laws_eqByteS))
theorem laws_eqByteS_l0_eq (k m : Nat) : ∀ (n : Nat) (c5 : Cell) (c6 : Cell) (i7 : Int), loopK (some [0, 1, 5]) (laws_eqByteS_l0_B k m) (laws_eqByteS_l0_K k m) n ⟨fT 26 0 [(0, .av (.one (c5))), (1, .av (.one (c6))), (5, .av (.one (Cell.int i7)))], fX 26 0 [], []⟩ = laws_eqByteS_l0 (k + 1) m n c5 c6 i7 := by
  intro n
  induction n with
  | zero => intros; rfl
  | succ n ih =>
    intros
    simp only [laws_eqByteS_l0, ← ih]
    kernel_rfl
theorem laws_eqByteS_code (k m : Nat) (c1 : Cell) (c2 : Cell) : evC G_laws_eqByteS fi_laws_eqByteS (evF G_laws_eqByteS (k + 1)) m fi_laws_eqByteS.code none (retK G_laws_eqByteS fi_laws_eqByteS) (enter fi_laws_eqByteS [.one (c1), .one (c2)] []) = laws_eqByteS (k + 1) m c1 c2 := by
  simp only [laws_eqByteS, ← laws_eqByteS_l0_eq k m]
  kernel_rfl
theorem laws_eqByteS_eq (k : Nat) (c1 : Cell) (c2 : Cell) : evF G_laws_eqByteS (k + 2) fid_laws_eqByteS [.one (c1), .one (c2)] [] = laws_eqByteS (k + 1) (k + 1) c1 c2 :=
  Eq.trans (by kernel_rfl) (laws_eqByteS_code k (k + 1) c1 c2)
theorem run_laws_eqByteS_of {c1 : Cell} {c2 : Cell} {r : Res} (k : Nat) (h : laws_eqByteS (k + 1) (k + 1) c1 c2 = some r) : run_laws_eqByteS [.one (c1), .one (c2)] [] = some r := lim_of ((laws_eqByteS_eq k c1 c2).trans h)
noncomputable def pl_laws_eqSlot : List (Nat × Run) := [(fid_laws_eqByteS, run_laws_eqByteS)]
noncomputable def G_laws_eqSlot : Ctx := ctx tyTab fiTab pl_laws_eqSlot
noncomputable def run_laws_eqSlot : Run := lim G_laws_eqSlot fid_laws_eqSlot
theorem ok_laws_eqSlot : FnOk Try.prog OkT fid_laws_eqSlot run_laws_eqSlot := lim_ok (l := pl_laws_eqSlot) Try_mix tyTab_ok fiTab_ok okT (.cons ok_laws_eqByteS .nil) fid_laws_eqSlot
noncomputable def laws_eqSlot (k m : Nat) (c1 : Cell) (c2 : Cell) (c3 : Cell) (c4 : Cell) : Option Res :=
  (callS run_laws_eqByteS [.one (c1), .one (c3)] []).bind fun r5 =>
  cond (shapeOk rk_laws_eqByteS r5)
  ((cB (cellsAt r5 0) 0).bind fun b6 =>
  cond (!b6)
  (some ([.one (Cell.bool false)], []))
  ((callS run_laws_eqByteS [.one (c2), .one (c4)] []).bind fun r7 =>
  cond (shapeOk rk_laws_eqByteS r7)
  ((cB (cellsAt r7 0) 0).bind fun b8 =>
  cond (!b8)
  (some ([.one (Cell.bool false)], []))
  (some ([.one (Cell.bool true)], [])))
  none))
  none
theorem laws_eqSlot_code (k m : Nat) (c1 : Cell) (c2 : Cell) (c3 : Cell) (c4 : Cell) : evC G_laws_eqSlot fi_laws_eqSlot (evF G_laws_eqSlot (k + 1)) m fi_laws_eqSlot.code none (retK G_laws_eqSlot fi_laws_eqSlot) (enter fi_laws_eqSlot [.agg [c1, c2], .agg [c3, c4]] []) = laws_eqSlot (k + 1) m c1 c2 c3 c4 := by
  kernel_rfl
theorem laws_eqSlot_eq (k : Nat) (c1 : Cell) (c2 : Cell) (c3 : Cell) (c4 : Cell) : evF G_laws_eqSlot (k + 2) fid_laws_eqSlot [.agg [c1, c2], .agg [c3, c4]] [] = laws_eqSlot (k + 1) (k + 1) c1 c2 c3 c4 :=
  Eq.trans (by kernel_rfl) (laws_eqSlot_code k (k + 1) c1 c2 c3 c4)
theorem run_laws_eqSlot_of {c1 : Cell} {c2 : Cell} {c3 : Cell} {c4 : Cell} {r : Res} (k : Nat) (h : laws_eqSlot (k + 1) (k + 1) c1 c2 c3 c4 = some r) : run_laws_eqSlot [.agg [c1, c2], .agg [c3, c4]] [] = some r := lim_of ((laws_eqSlot_eq k c1 c2 c3 c4).trans h)
noncomputable def pl_laws_eqSlotS : List (Nat × Run) := [(fid_laws_eqSlot, run_laws_eqSlot)]
noncomputable def G_laws_eqSlotS : Ctx := ctx tyTab fiTab pl_laws_eqSlotS
noncomputable def run_laws_eqSlotS : Run := lim G_laws_eqSlotS fid_laws_eqSlotS
theorem ok_laws_eqSlotS : FnOk Try.prog OkT fid_laws_eqSlotS run_laws_eqSlotS := lim_ok (l := pl_laws_eqSlotS) Try_mix tyTab_ok fiTab_ok okT (.cons ok_laws_eqSlot .nil) fid_laws_eqSlotS
noncomputable def laws_eqSlotS_l0 (k m : Nat) : Nat → Cell → Cell → Int → Option Res
  | 0, _, _, _ => none
  | n + 1, c5, c6, i7 =>
    (lenC c5).bind fun n8 =>
    cond (decide (i7 < (n8 : Int)))
    ((idxA 2 (c5) i7).bind fun c9 =>
    (deref [] (c9)).bind fun p10 =>
    (cC p10.1 p10.2).bind fun c11 =>
    (cC p10.1 (p10.2 + 1)).bind fun c12 =>
    (idxA 2 (c6) i7).bind fun c13 =>
    (deref [] (c13)).bind fun p14 =>
    (cC p14.1 p14.2).bind fun c15 =>
    (cC p14.1 (p14.2 + 1)).bind fun c16 =>
    (callS run_laws_eqSlot [.agg [c11, c12], .agg [c15, c16]] []).bind fun r17 =>
    cond (shapeOk rk_laws_eqSlot r17)
    ((cB (cellsAt r17 0) 0).bind fun b18 =>
    cond (!b18)
    (some ([.one (Cell.bool false)], []))
    (laws_eqSlotS_l0 k m n (c5) (c6) (IntKind.i64.wrap (i7 + 1))))
    none)
    (some ([.one (Cell.bool true)], []))
noncomputable def laws_eqSlotS (k m : Nat) (c1 : Cell) (c2 : Cell) : Option Res :=
  (lenC c1).bind fun n3 =>
  (lenC c2).bind fun n4 =>
  cond ((n3 : Int) != (n4 : Int))
  (some ([.one (Cell.bool false)], []))
  (laws_eqSlotS_l0 k m m (c1) (c2) 0)
noncomputable abbrev laws_eqSlotS_l0_B (k m : Nat) : (Ex → Fr → Option Res) → Fr → Option Res := evC G_laws_eqSlotS fi_laws_eqSlotS (evF G_laws_eqSlotS (k + 1)) m (sub [1, 1, 0, 1, 2, 3] fi_laws_eqSlotS.code) none
noncomputable abbrev laws_eqSlotS_l0_K (k m : Nat) : Ex → Fr → Option Res := blockK 0 (seqK (evC G_laws_eqSlotS fi_laws_eqSlotS (evF G_laws_eqSlotS (k + 1)) m (sub [1, 1, 1] fi_laws_eqSlotS.code) none) (retK G_laws_eqSlotS fi_laws_eqSlotS))
theorem laws_eqSlotS_l0_eq (k m : Nat) : ∀ (n : Nat) (c5 : Cell) (c6 : Cell) (i7 : Int), loopK (some [0, 1, 5]) (laws_eqSlotS_l0_B k m) (laws_eqSlotS_l0_K k m) n ⟨fT 27 0 [(0, .av (.one (c5))), (1, .av (.one (c6))), (5, .av (.one (Cell.int i7)))], fX 27 0 [], []⟩ = laws_eqSlotS_l0 (k + 1) m n c5 c6 i7 := by
  intro n
  induction n with
  | zero => intros; rfl
  | succ n ih =>
    intros
    simp only [laws_eqSlotS_l0, ← ih]
    kernel_rfl
theorem laws_eqSlotS_code (k m : Nat) (c1 : Cell) (c2 : Cell) : evC G_laws_eqSlotS fi_laws_eqSlotS (evF G_laws_eqSlotS (k + 1)) m fi_laws_eqSlotS.code none (retK G_laws_eqSlotS fi_laws_eqSlotS) (enter fi_laws_eqSlotS [.one (c1), .one (c2)] []) = laws_eqSlotS (k + 1) m c1 c2 := by
  simp only [laws_eqSlotS, ← laws_eqSlotS_l0_eq k m]
  kernel_rfl
theorem laws_eqSlotS_eq (k : Nat) (c1 : Cell) (c2 : Cell) : evF G_laws_eqSlotS (k + 2) fid_laws_eqSlotS [.one (c1), .one (c2)] [] = laws_eqSlotS (k + 1) (k + 1) c1 c2 :=
  Eq.trans (by kernel_rfl) (laws_eqSlotS_code k (k + 1) c1 c2)
theorem run_laws_eqSlotS_of {c1 : Cell} {c2 : Cell} {r : Res} (k : Nat) (h : laws_eqSlotS (k + 1) (k + 1) c1 c2 = some r) : run_laws_eqSlotS [.one (c1), .one (c2)] [] = some r := lim_of ((laws_eqSlotS_eq k c1 c2).trans h)
noncomputable def pl_laws_FnExactCacheSize : List (Nat × Run) := [(fid_laws_szSlotS, run_laws_szSlotS), (fid_spec_CacheSize, run_spec_CacheSize), (fid_laws_toSlotS, run_laws_toSlotS), (fid_impl_CacheSize, run_impl_CacheSize), (fid_laws_eqSlotS, run_laws_eqSlotS)]
noncomputable def G_laws_FnExactCacheSize : Ctx := ctx tyTab fiTab pl_laws_FnExactCacheSize
noncomputable def run_laws_FnExactCacheSize : Run := lim G_laws_FnExactCacheSize fid_laws_FnExactCacheSize
theorem ok_laws_FnExactCacheSize : FnOk Try.prog OkT fid_laws_FnExactCacheSize run_laws_FnExactCacheSize := lim_ok (l := pl_laws_FnExactCacheSize) Try_mix tyTab_ok fiTab_ok okT (.cons ok_laws_szSlotS (.cons ok_spec_CacheSize (.cons ok_laws_toSlotS (.cons ok_impl_CacheSize (.cons ok_laws_eqSlotS .nil))))) fid_laws_FnExactCacheSize
noncomputable def laws_FnExactCacheSize (k m : Nat) (c1 : Cell) : Option Res :=
  (callS run_laws_szSlotS [.one (c1), .one (Cell.int 1048576)] []).bind fun r2 =>
  cond (shapeOk rk_laws_szSlotS r2)
  ((cI .i64 (cellsAt r2 0) 0).bind fun i3 =>
  cond (decide (i3 < 0))
  (some ([.one (Cell.bool true)], []))
  ((callL run_laws_toSlotS [.one (c1)] []).bind fun r4 =>
  cond (shapeOk rk_laws_toSlotS r4.1)
  ((cC (cellsAt r4.1 0) 0).bind fun c5 =>
  (callS run_spec_CacheSize [.one (c5)] r4.2).bind fun r6 =>
  cond (shapeOk rk_spec_CacheSize r6)
  ((cI .i64 (cellsAt r6 0) 0).bind fun i7 =>
  (callL run_laws_toSlotS [.one (c1)] r4.2).bind fun r8 =>
  cond (shapeOk rk_laws_toSlotS r8.1)
  ((cC (cellsAt r8.1 0) 0).bind fun c9 =>
  (callS run_impl_CacheSize [.one (c9)] r8.2).bind fun r10 =>
  cond (shapeOk rk_impl_CacheSize r10)
  ((cI .i64 (cellsAt r10 0) 0).bind fun i11 =>
  cond (i11 != i7)
  (some ([.one (Cell.bool false)], r8.2))
  ((callL run_laws_toSlotS [.one (c1)] r8.2).bind fun r12 =>
  cond (shapeOk rk_laws_toSlotS r12.1)
  ((cC (cellsAt r12.1 0) 0).bind fun c13 =>
  (callS run_laws_eqSlotS [.one (c9), .one (c13)] r12.2).bind fun r14 =>
  cond (shapeOk rk_laws_eqSlotS r14)
  ((cB (cellsAt r14 0) 0).bind fun b15 =>
  cond (!b15)
  (some ([.one (Cell.bool false)], r12.2))
  (some ([.one (Cell.bool true)], r12.2)))
  none)
  none))
  none)
  none)
  none)
  none))
  none
theorem laws_FnExactCacheSize_code (k m : Nat) (c1 : Cell) : evC G_laws_FnExactCacheSize fi_laws_FnExactCacheSize (evF G_laws_FnExactCacheSize (k + 1)) m fi_laws_FnExactCacheSize.code none (retK G_laws_FnExactCacheSize fi_laws_FnExactCacheSize) (enter fi_laws_FnExactCacheSize [.one (c1)] []) = laws_FnExactCacheSize (k + 1) m c1 := by
  kernel_rfl
theorem laws_FnExactCacheSize_eq (k : Nat) (c1 : Cell) : evF G_laws_FnExactCacheSize (k + 2) fid_laws_FnExactCacheSize [.one (c1)] [] = laws_FnExactCacheSize (k + 1) (k + 1) c1 :=
  Eq.trans (by kernel_rfl) (laws_FnExactCacheSize_code k (k + 1) c1)
theorem run_laws_FnExactCacheSize_of {c1 : Cell} {r : Res} (k : Nat) (h : laws_FnExactCacheSize (k + 1) (k + 1) c1 = some r) : run_laws_FnExactCacheSize [.one (c1)] [] = some r := lim_of ((laws_FnExactCacheSize_eq k c1).trans h)
end Go.Ev
