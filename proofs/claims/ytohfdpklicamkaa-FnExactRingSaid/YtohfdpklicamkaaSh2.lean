/- What the evaluator says of the functions, each as a Lean function over cells. Printed by a program of this claim. Conditions: none. -/
import Derived.Test.YtohfdpklicamkaaSh1
import Derived.KernelRfl
namespace Go.Ev
open Go Go.Proofs
set_option maxRecDepth 100000
set_option linter.unusedVariables false
set_option linter.unusedSimpArgs false
noncomputable def pl_spec_l11Packs : List (Nat × Run) := []
noncomputable def G_spec_l11Packs : Ctx := ctx tyTab fiTab pl_spec_l11Packs
noncomputable def run_spec_l11Packs : Run := lim G_spec_l11Packs fid_spec_l11Packs
theorem ok_spec_l11Packs : FnOk Try.prog OkT fid_spec_l11Packs run_spec_l11Packs := lim_ok (l := pl_spec_l11Packs) Try_mix tyTab_ok fiTab_ok okT .nil fid_spec_l11Packs
noncomputable def spec_l11Packs_l0 (k m : Nat) : Nat → Cell → Int → Cell → Cell → List Entry → Option Res
  | 0, _, _, _, _, _ => none
  | n + 1, c2, i3, c4, c5, H6 =>
    (lenC c2).bind fun n7 =>
    cond (decide (i3 < (n7 : Int)))
    ((idxA 4 (c2) i3).bind fun c8 =>
    (fldA c8 0).bind fun c9 =>
    (deref H6 (c9)).bind fun p10 =>
    (cS p10.1 p10.2).bind fun s11 =>
    (srcRows (H6 ++ [Entry.mk 1 [[Cell.str s11]] 0 false]) 1 (.vs H6.length 1 0 1 0)).bind fun r12 =>
    (app (H6 ++ [Entry.mk 1 [[Cell.str s11]] 0 false]) 1 16 (c4) r12).bind fun p13 =>
    (idxA 4 (c2) i3).bind fun c14 =>
    (fldA c14 1).bind fun c15 =>
    (deref [] (c15)).bind fun p16 =>
    (cC p16.1 p16.2).bind fun c17 =>
    (srcRows (p13.2 ++ [Entry.mk 1 [] 0 false]) 1 c17).bind fun r18 =>
    (app (p13.2 ++ [Entry.mk 1 [] 0 false]) 1 16 ((.vs p13.2.length 1 0 0 0)) r18).bind fun p19 =>
    (srcRows (p19.2 ++ [Entry.mk 1 [[p19.1]] 0 false]) 1 (.vs p19.2.length 1 0 1 0)).bind fun r20 =>
    (app (p19.2 ++ [Entry.mk 1 [[p19.1]] 0 false]) 1 24 (c5) r20).bind fun p21 =>
    spec_l11Packs_l0 k m n (c2) (IntKind.i64.wrap (i3 + 1)) (p13.1) (p21.1) p21.2)
    (some ([.agg [c4, c5]], H6))
noncomputable def spec_l11Packs (k m : Nat) (c1 : Cell) : Option Res :=
  spec_l11Packs_l0 k m m (c1) 0 (.lst true 1 []) (.lst true 1 []) []
noncomputable abbrev spec_l11Packs_l0_B (k m : Nat) : (Ex → Fr → Option Res) → Fr → Option Res := evC G_spec_l11Packs fi_spec_l11Packs (evF G_spec_l11Packs (k + 1)) m (sub [1, 1, 0, 1, 2, 3] fi_spec_l11Packs.code) none
noncomputable abbrev spec_l11Packs_l0_K (k m : Nat) : Ex → Fr → Option Res := blockK 0 (seqK (evC G_spec_l11Packs fi_spec_l11Packs (evF G_spec_l11Packs (k + 1)) m (sub [1, 1, 1] fi_spec_l11Packs.code) none) (retK G_spec_l11Packs fi_spec_l11Packs))
theorem spec_l11Packs_l0_eq (k m : Nat) : ∀ (n : Nat) (c2 : Cell) (i3 : Int) (c4 : Cell) (c5 : Cell) (H6 : List Entry), loopK (some [0, 2, 3, 4]) (spec_l11Packs_l0_B k m) (spec_l11Packs_l0_K k m) n ⟨fT 35 0 [(0, .av (.one (c2))), (2, .loc 2 0), (3, .loc 3 0), (4, .av (.one (Cell.int i3)))], fX 35 0 [(2, [.lst true 1 [], .lst true 1 []]), (3, [c4, c5])], H6⟩ = spec_l11Packs_l0 (k + 1) m n c2 i3 c4 c5 H6 := by
  intro n
  induction n with
  | zero => intros; rfl
  | succ n ih =>
    intros
    simp only [spec_l11Packs_l0, ← ih]
    kernel_rfl
theorem spec_l11Packs_code (k m : Nat) (c1 : Cell) : evC G_spec_l11Packs fi_spec_l11Packs (evF G_spec_l11Packs (k + 1)) m fi_spec_l11Packs.code none (retK G_spec_l11Packs fi_spec_l11Packs) (enter fi_spec_l11Packs [.one (c1)] []) = spec_l11Packs (k + 1) m c1 := by
  simp only [spec_l11Packs, ← spec_l11Packs_l0_eq k m]
  kernel_rfl
theorem spec_l11Packs_eq (k : Nat) (c1 : Cell) : evF G_spec_l11Packs (k + 2) fid_spec_l11Packs [.one (c1)] [] = spec_l11Packs (k + 1) (k + 1) c1 :=
  Eq.trans (by kernel_rfl) (spec_l11Packs_code k (k + 1) c1)
theorem run_spec_l11Packs_of {c1 : Cell} {r : Res} (k : Nat) (h : spec_l11Packs (k + 1) (k + 1) c1 = some r) : run_spec_l11Packs [.one (c1)] [] = some r := lim_of ((spec_l11Packs_eq k c1).trans h)
noncomputable def pl_spec_Ring : List (Nat × Run) := [(fid_spec_l11Ring, run_spec_l11Ring), (fid_spec_l11Packs, run_spec_l11Packs)]
noncomputable def G_spec_Ring : Ctx := ctx tyTab fiTab pl_spec_Ring
noncomputable def run_spec_Ring : Run := lim G_spec_Ring fid_spec_Ring
theorem ok_spec_Ring : FnOk Try.prog OkT fid_spec_Ring run_spec_Ring := lim_ok (l := pl_spec_Ring) Try_mix tyTab_ok fiTab_ok okT (.cons ok_spec_l11Ring (.cons ok_spec_l11Packs .nil)) fid_spec_Ring
noncomputable def spec_Ring (k m : Nat) (c1 : Cell) : Option Res :=
  (callL run_spec_l11Packs [.one (c1)] []).bind fun r2 =>
  cond (shapeOk rk_spec_l11Packs r2.1)
  ((cC (cellsAt r2.1 0) 0).bind fun c3 =>
  (cC (cellsAt r2.1 0) 1).bind fun c4 =>
  (callL run_spec_l11Ring [.agg [c3, c4]] r2.2).bind fun r5 =>
  cond (shapeOk rk_spec_l11Ring r5.1)
  ((cC (cellsAt r5.1 0) 0).bind fun c6 =>
  some ([.one (c6)], r5.2))
  none)
  none
theorem spec_Ring_code (k m : Nat) (c1 : Cell) : evC G_spec_Ring fi_spec_Ring (evF G_spec_Ring (k + 1)) m fi_spec_Ring.code none (retK G_spec_Ring fi_spec_Ring) (enter fi_spec_Ring [.one (c1)] []) = spec_Ring (k + 1) m c1 := by
  kernel_rfl
theorem spec_Ring_eq (k : Nat) (c1 : Cell) : evF G_spec_Ring (k + 2) fid_spec_Ring [.one (c1)] [] = spec_Ring (k + 1) (k + 1) c1 :=
  Eq.trans (by kernel_rfl) (spec_Ring_code k (k + 1) c1)
theorem run_spec_Ring_of {c1 : Cell} {r : Res} (k : Nat) (h : spec_Ring (k + 1) (k + 1) c1 = some r) : run_spec_Ring [.one (c1)] [] = some r := lim_of ((spec_Ring_eq k c1).trans h)
noncomputable def pl_laws_toStringS : List (Nat × Run) := []
noncomputable def G_laws_toStringS : Ctx := ctx tyTab fiTab pl_laws_toStringS
noncomputable def run_laws_toStringS : Run := lim G_laws_toStringS fid_laws_toStringS
theorem ok_laws_toStringS : FnOk Try.prog OkT fid_laws_toStringS run_laws_toStringS := lim_ok (l := pl_laws_toStringS) Try_mix tyTab_ok fiTab_ok okT .nil fid_laws_toStringS
noncomputable def laws_toStringS_l0 (k m : Nat) : Nat → Cell → Cell → Int → List Entry → Option Res
  | 0, _, _, _, _ => none
  | n + 1, c3, c4, i5, H6 =>
    (lenC c3).bind fun n7 =>
    cond (decide (i5 < (n7 : Int)))
    ((idxA 1 (c3) i5).bind fun c8 =>
    (deref H6 (c8)).bind fun p9 =>
    (cS p9.1 p9.2).bind fun s10 =>
    (idxA 1 (c4) i5).bind fun c11 =>
    (hStore H6 (c11) [Cell.str s10]).bind fun h12 =>
    laws_toStringS_l0 k m n (c3) (c4) (IntKind.i64.wrap (i5 + 1)) h12)
    (some ([.one (c4)], H6))
noncomputable def laws_toStringS (k m : Nat) (c1 : Cell) : Option Res :=
  (lenC c1).bind fun n2 =>
  if 0 ≤ (n2 : Int) ∧ (n2 : Int) ≤ (n2 : Int) ∧ (n2 : Int) * 16 ≤ bound ∧ (n2 : Int) ≤ bound then
  (laws_toStringS_l0 k m m (c1) ((.vs 0 1 0 (n2 : Int).toNat 0)) 0 [Entry.mk 1 (mkRows (n2 : Int).toNat [Cell.str (bs [])]) 0 false]) else none
noncomputable abbrev laws_toStringS_l0_B (k m : Nat) : (Ex → Fr → Option Res) → Fr → Option Res := evC G_laws_toStringS fi_laws_toStringS (evF G_laws_toStringS (k + 1)) m (sub [1, 1, 0, 1, 2, 3] fi_laws_toStringS.code) none
noncomputable abbrev laws_toStringS_l0_K (k m : Nat) : Ex → Fr → Option Res := blockK 0 (seqK (evC G_laws_toStringS fi_laws_toStringS (evF G_laws_toStringS (k + 1)) m (sub [1, 1, 1] fi_laws_toStringS.code) none) (retK G_laws_toStringS fi_laws_toStringS))
theorem laws_toStringS_l0_eq (k m : Nat) : ∀ (n : Nat) (c3 : Cell) (c4 : Cell) (i5 : Int) (H6 : List Entry), loopK (some [0, 3, 4]) (laws_toStringS_l0_B k m) (laws_toStringS_l0_K k m) n ⟨fT 22 0 [(0, .av (.one (c3))), (3, .av (.one (c4))), (4, .av (.one (Cell.int i5)))], fX 22 0 [], H6⟩ = laws_toStringS_l0 (k + 1) m n c3 c4 i5 H6 := by
  intro n
  induction n with
  | zero => intros; rfl
  | succ n ih =>
    intros
    simp only [laws_toStringS_l0, ← ih]
    kernel_rfl
theorem laws_toStringS_code (k m : Nat) (c1 : Cell) : evC G_laws_toStringS fi_laws_toStringS (evF G_laws_toStringS (k + 1)) m fi_laws_toStringS.code none (retK G_laws_toStringS fi_laws_toStringS) (enter fi_laws_toStringS [.one (c1)] []) = laws_toStringS (k + 1) m c1 := by
  simp only [laws_toStringS, ← laws_toStringS_l0_eq k m]
  kernel_rfl
theorem laws_toStringS_eq (k : Nat) (c1 : Cell) : evF G_laws_toStringS (k + 2) fid_laws_toStringS [.one (c1)] [] = laws_toStringS (k + 1) (k + 1) c1 :=
  Eq.trans (by kernel_rfl) (laws_toStringS_code k (k + 1) c1)
theorem run_laws_toStringS_of {c1 : Cell} {r : Res} (k : Nat) (h : laws_toStringS (k + 1) (k + 1) c1 = some r) : run_laws_toStringS [.one (c1)] [] = some r := lim_of ((laws_toStringS_eq k c1).trans h)
noncomputable def pl_laws_toNeed : List (Nat × Run) := []
noncomputable def G_laws_toNeed : Ctx := ctx tyTab fiTab pl_laws_toNeed
noncomputable def run_laws_toNeed : Run := lim G_laws_toNeed fid_laws_toNeed
theorem ok_laws_toNeed : FnOk Try.prog OkT fid_laws_toNeed run_laws_toNeed := lim_ok (l := pl_laws_toNeed) Try_mix tyTab_ok fiTab_ok okT .nil fid_laws_toNeed
noncomputable def laws_toNeed (k m : Nat) (s1 : ByteArray) (s2 : ByteArray) : Option Res :=
  some ([.agg [Cell.str s1, Cell.str s2]], [])
theorem laws_toNeed_code (k m : Nat) (s1 : ByteArray) (s2 : ByteArray) : evC G_laws_toNeed fi_laws_toNeed (evF G_laws_toNeed (k + 1)) m fi_laws_toNeed.code none (retK G_laws_toNeed fi_laws_toNeed) (enter fi_laws_toNeed [.agg [Cell.str s1, Cell.str s2]] []) = laws_toNeed (k + 1) m s1 s2 := by
  kernel_rfl
theorem laws_toNeed_eq (k : Nat) (s1 : ByteArray) (s2 : ByteArray) : evF G_laws_toNeed (k + 2) fid_laws_toNeed [.agg [Cell.str s1, Cell.str s2]] [] = laws_toNeed (k + 1) (k + 1) s1 s2 :=
  Eq.trans (by kernel_rfl) (laws_toNeed_code k (k + 1) s1 s2)
theorem run_laws_toNeed_of {s1 : ByteArray} {s2 : ByteArray} {r : Res} (k : Nat) (h : laws_toNeed (k + 1) (k + 1) s1 s2 = some r) : run_laws_toNeed [.agg [Cell.str s1, Cell.str s2]] [] = some r := lim_of ((laws_toNeed_eq k s1 s2).trans h)
noncomputable def pl_laws_toNeedS : List (Nat × Run) := [(fid_laws_toNeed, run_laws_toNeed)]
noncomputable def G_laws_toNeedS : Ctx := ctx tyTab fiTab pl_laws_toNeedS
noncomputable def run_laws_toNeedS : Run := lim G_laws_toNeedS fid_laws_toNeedS
theorem ok_laws_toNeedS : FnOk Try.prog OkT fid_laws_toNeedS run_laws_toNeedS := lim_ok (l := pl_laws_toNeedS) Try_mix tyTab_ok fiTab_ok okT (.cons ok_laws_toNeed .nil) fid_laws_toNeedS
noncomputable def laws_toNeedS_l0 (k m : Nat) : Nat → Cell → Cell → Int → List Entry → Option Res
  | 0, _, _, _, _ => none
  | n + 1, c3, c4, i5, H6 =>
    (lenC c3).bind fun n7 =>
    cond (decide (i5 < (n7 : Int)))
    ((idxA 2 (c3) i5).bind fun c8 =>
    (deref H6 (c8)).bind fun p9 =>
    (cS p9.1 p9.2).bind fun s10 =>
    (cS p9.1 (p9.2 + 1)).bind fun s11 =>
    (callF run_laws_toNeed [.agg [Cell.str s10, Cell.str s11]] H6).bind fun r12 =>
    cond (shapeOk rk_laws_toNeed r12.1)
    ((cS (cellsAt r12.1 0) 0).bind fun s13 =>
    (cS (cellsAt r12.1 0) 1).bind fun s14 =>
    (idxA 2 (c4) i5).bind fun c15 =>
    (hStore r12.2 (c15) [Cell.str s13, Cell.str s14]).bind fun h16 =>
    laws_toNeedS_l0 k m n (c3) (c4) (IntKind.i64.wrap (i5 + 1)) h16)
    none)
    (some ([.one (c4)], H6))
noncomputable def laws_toNeedS (k m : Nat) (c1 : Cell) : Option Res :=
  (lenC c1).bind fun n2 =>
  if 0 ≤ (n2 : Int) ∧ (n2 : Int) ≤ (n2 : Int) ∧ (n2 : Int) * 32 ≤ bound ∧ (n2 : Int) ≤ bound then
  (laws_toNeedS_l0 k m m (c1) ((.vs 0 2 0 (n2 : Int).toNat 0)) 0 [Entry.mk 2 (mkRows (n2 : Int).toNat [Cell.str (bs []), Cell.str (bs [])]) 0 false]) else none
noncomputable abbrev laws_toNeedS_l0_B (k m : Nat) : (Ex → Fr → Option Res) → Fr → Option Res := evC G_laws_toNeedS fi_laws_toNeedS (evF G_laws_toNeedS (k + 1)) m (sub [1, 1, 0, 1, 2, 3] fi_laws_toNeedS.code) none
noncomputable abbrev laws_toNeedS_l0_K (k m : Nat) : Ex → Fr → Option Res := blockK 0 (seqK (evC G_laws_toNeedS fi_laws_toNeedS (evF G_laws_toNeedS (k + 1)) m (sub [1, 1, 1] fi_laws_toNeedS.code) none) (retK G_laws_toNeedS fi_laws_toNeedS))
theorem laws_toNeedS_l0_eq (k m : Nat) : ∀ (n : Nat) (c3 : Cell) (c4 : Cell) (i5 : Int) (H6 : List Entry), loopK (some [0, 3, 4]) (laws_toNeedS_l0_B k m) (laws_toNeedS_l0_K k m) n ⟨fT 23 0 [(0, .av (.one (c3))), (3, .av (.one (c4))), (4, .av (.one (Cell.int i5)))], fX 23 0 [], H6⟩ = laws_toNeedS_l0 (k + 1) m n c3 c4 i5 H6 := by
  intro n
  induction n with
  | zero => intros; rfl
  | succ n ih =>
    intros
    simp only [laws_toNeedS_l0, ← ih]
    kernel_rfl
theorem laws_toNeedS_code (k m : Nat) (c1 : Cell) : evC G_laws_toNeedS fi_laws_toNeedS (evF G_laws_toNeedS (k + 1)) m fi_laws_toNeedS.code none (retK G_laws_toNeedS fi_laws_toNeedS) (enter fi_laws_toNeedS [.one (c1)] []) = laws_toNeedS (k + 1) m c1 := by
  simp only [laws_toNeedS, ← laws_toNeedS_l0_eq k m]
  kernel_rfl
theorem laws_toNeedS_eq (k : Nat) (c1 : Cell) : evF G_laws_toNeedS (k + 2) fid_laws_toNeedS [.one (c1)] [] = laws_toNeedS (k + 1) (k + 1) c1 :=
  Eq.trans (by kernel_rfl) (laws_toNeedS_code k (k + 1) c1)
theorem run_laws_toNeedS_of {c1 : Cell} {r : Res} (k : Nat) (h : laws_toNeedS (k + 1) (k + 1) c1 = some r) : run_laws_toNeedS [.one (c1)] [] = some r := lim_of ((laws_toNeedS_eq k c1).trans h)
noncomputable def pl_laws_toCmd : List (Nat × Run) := [(fid_laws_toStringS, run_laws_toStringS)]
noncomputable def G_laws_toCmd : Ctx := ctx tyTab fiTab pl_laws_toCmd
noncomputable def run_laws_toCmd : Run := lim G_laws_toCmd fid_laws_toCmd
theorem ok_laws_toCmd : FnOk Try.prog OkT fid_laws_toCmd run_laws_toCmd := lim_ok (l := pl_laws_toCmd) Try_mix tyTab_ok fiTab_ok okT (.cons ok_laws_toStringS .nil) fid_laws_toCmd
noncomputable def laws_toCmd (k m : Nat) (s1 : ByteArray) (c2 : Cell) : Option Res :=
  (callF run_laws_toStringS [.one (c2)] []).bind fun r3 =>
  cond (shapeOk rk_laws_toStringS r3.1)
  ((cC (cellsAt r3.1 0) 0).bind fun c4 =>
  some ([.agg [Cell.str s1, c4]], r3.2))
  none
theorem laws_toCmd_code (k m : Nat) (s1 : ByteArray) (c2 : Cell) : evC G_laws_toCmd fi_laws_toCmd (evF G_laws_toCmd (k + 1)) m fi_laws_toCmd.code none (retK G_laws_toCmd fi_laws_toCmd) (enter fi_laws_toCmd [.agg [Cell.str s1, c2]] []) = laws_toCmd (k + 1) m s1 c2 := by
  kernel_rfl
theorem laws_toCmd_eq (k : Nat) (s1 : ByteArray) (c2 : Cell) : evF G_laws_toCmd (k + 2) fid_laws_toCmd [.agg [Cell.str s1, c2]] [] = laws_toCmd (k + 1) (k + 1) s1 c2 :=
  Eq.trans (by kernel_rfl) (laws_toCmd_code k (k + 1) s1 c2)
theorem run_laws_toCmd_of {s1 : ByteArray} {c2 : Cell} {r : Res} (k : Nat) (h : laws_toCmd (k + 1) (k + 1) s1 c2 = some r) : run_laws_toCmd [.agg [Cell.str s1, c2]] [] = some r := lim_of ((laws_toCmd_eq k s1 c2).trans h)
noncomputable def pl_laws_toCmdS : List (Nat × Run) := [(fid_laws_toCmd, run_laws_toCmd)]
noncomputable def G_laws_toCmdS : Ctx := ctx tyTab fiTab pl_laws_toCmdS
noncomputable def run_laws_toCmdS : Run := lim G_laws_toCmdS fid_laws_toCmdS
theorem ok_laws_toCmdS : FnOk Try.prog OkT fid_laws_toCmdS run_laws_toCmdS := lim_ok (l := pl_laws_toCmdS) Try_mix tyTab_ok fiTab_ok okT (.cons ok_laws_toCmd .nil) fid_laws_toCmdS
noncomputable def laws_toCmdS_l0 (k m : Nat) : Nat → Cell → Cell → Int → List Entry → Option Res
  | 0, _, _, _, _ => none
  | n + 1, c3, c4, i5, H6 =>
    (lenC c3).bind fun n7 =>
    cond (decide (i5 < (n7 : Int)))
    ((idxA 2 (c3) i5).bind fun c8 =>
    (deref H6 (c8)).bind fun p9 =>
    (cS p9.1 p9.2).bind fun s10 =>
    (cC p9.1 (p9.2 + 1)).bind fun c11 =>
    (callF run_laws_toCmd [.agg [Cell.str s10, c11]] H6).bind fun r12 =>
    cond (shapeOk rk_laws_toCmd r12.1)
    ((cS (cellsAt r12.1 0) 0).bind fun s13 =>
    (cC (cellsAt r12.1 0) 1).bind fun c14 =>
    (idxA 2 (c4) i5).bind fun c15 =>
    (hStore r12.2 (c15) [Cell.str s13, c14]).bind fun h16 =>
    laws_toCmdS_l0 k m n (c3) (c4) (IntKind.i64.wrap (i5 + 1)) h16)
    none)
    (some ([.one (c4)], H6))
noncomputable def laws_toCmdS (k m : Nat) (c1 : Cell) : Option Res :=
  (lenC c1).bind fun n2 =>
  if 0 ≤ (n2 : Int) ∧ (n2 : Int) ≤ (n2 : Int) ∧ (n2 : Int) * 40 ≤ bound ∧ (n2 : Int) ≤ bound then
  (laws_toCmdS_l0 k m m (c1) ((.vs 0 2 0 (n2 : Int).toNat 0)) 0 [Entry.mk 2 (mkRows (n2 : Int).toNat [Cell.str (bs []), .lst true 1 []]) 0 false]) else none
noncomputable abbrev laws_toCmdS_l0_B (k m : Nat) : (Ex → Fr → Option Res) → Fr → Option Res := evC G_laws_toCmdS fi_laws_toCmdS (evF G_laws_toCmdS (k + 1)) m (sub [1, 1, 0, 1, 2, 3] fi_laws_toCmdS.code) none
noncomputable abbrev laws_toCmdS_l0_K (k m : Nat) : Ex → Fr → Option Res := blockK 0 (seqK (evC G_laws_toCmdS fi_laws_toCmdS (evF G_laws_toCmdS (k + 1)) m (sub [1, 1, 1] fi_laws_toCmdS.code) none) (retK G_laws_toCmdS fi_laws_toCmdS))
theorem laws_toCmdS_l0_eq (k m : Nat) : ∀ (n : Nat) (c3 : Cell) (c4 : Cell) (i5 : Int) (H6 : List Entry), loopK (some [0, 3, 4]) (laws_toCmdS_l0_B k m) (laws_toCmdS_l0_K k m) n ⟨fT 23 0 [(0, .av (.one (c3))), (3, .av (.one (c4))), (4, .av (.one (Cell.int i5)))], fX 23 0 [], H6⟩ = laws_toCmdS_l0 (k + 1) m n c3 c4 i5 H6 := by
  intro n
  induction n with
  | zero => intros; rfl
  | succ n ih =>
    intros
    simp only [laws_toCmdS_l0, ← ih]
    kernel_rfl
theorem laws_toCmdS_code (k m : Nat) (c1 : Cell) : evC G_laws_toCmdS fi_laws_toCmdS (evF G_laws_toCmdS (k + 1)) m fi_laws_toCmdS.code none (retK G_laws_toCmdS fi_laws_toCmdS) (enter fi_laws_toCmdS [.one (c1)] []) = laws_toCmdS (k + 1) m c1 := by
  simp only [laws_toCmdS, ← laws_toCmdS_l0_eq k m]
  kernel_rfl
theorem laws_toCmdS_eq (k : Nat) (c1 : Cell) : evF G_laws_toCmdS (k + 2) fid_laws_toCmdS [.one (c1)] [] = laws_toCmdS (k + 1) (k + 1) c1 :=
  Eq.trans (by kernel_rfl) (laws_toCmdS_code k (k + 1) c1)
theorem run_laws_toCmdS_of {c1 : Cell} {r : Res} (k : Nat) (h : laws_toCmdS (k + 1) (k + 1) c1 = some r) : run_laws_toCmdS [.one (c1)] [] = some r := lim_of ((laws_toCmdS_eq k c1).trans h)
noncomputable def pl_laws_toPack : List (Nat × Run) := [(fid_laws_toStringS, run_laws_toStringS), (fid_laws_toNeedS, run_laws_toNeedS), (fid_laws_toCmdS, run_laws_toCmdS)]
noncomputable def G_laws_toPack : Ctx := ctx tyTab fiTab pl_laws_toPack
noncomputable def run_laws_toPack : Run := lim G_laws_toPack fid_laws_toPack
theorem ok_laws_toPack : FnOk Try.prog OkT fid_laws_toPack run_laws_toPack := lim_ok (l := pl_laws_toPack) Try_mix tyTab_ok fiTab_ok okT (.cons ok_laws_toStringS (.cons ok_laws_toNeedS (.cons ok_laws_toCmdS .nil))) fid_laws_toPack
noncomputable def laws_toPack (k m : Nat) (s1 : ByteArray) (c2 : Cell) (c3 : Cell) (c4 : Cell) : Option Res :=
  (callF run_laws_toStringS [.one (c2)] []).bind fun r5 =>
  cond (shapeOk rk_laws_toStringS r5.1)
  ((cC (cellsAt r5.1 0) 0).bind fun c6 =>
  (callF run_laws_toNeedS [.one (c3)] r5.2).bind fun r7 =>
  cond (shapeOk rk_laws_toNeedS r7.1)
  ((cC (cellsAt r7.1 0) 0).bind fun c8 =>
  (callF run_laws_toCmdS [.one (c4)] r7.2).bind fun r9 =>
  cond (shapeOk rk_laws_toCmdS r9.1)
  ((cC (cellsAt r9.1 0) 0).bind fun c10 =>
  some ([.agg [Cell.str s1, c6, c8, c10]], r9.2))
  none)
  none)
  none
theorem laws_toPack_code (k m : Nat) (s1 : ByteArray) (c2 : Cell) (c3 : Cell) (c4 : Cell) : evC G_laws_toPack fi_laws_toPack (evF G_laws_toPack (k + 1)) m fi_laws_toPack.code none (retK G_laws_toPack fi_laws_toPack) (enter fi_laws_toPack [.agg [Cell.str s1, c2, c3, c4]] []) = laws_toPack (k + 1) m s1 c2 c3 c4 := by
  kernel_rfl
theorem laws_toPack_eq (k : Nat) (s1 : ByteArray) (c2 : Cell) (c3 : Cell) (c4 : Cell) : evF G_laws_toPack (k + 2) fid_laws_toPack [.agg [Cell.str s1, c2, c3, c4]] [] = laws_toPack (k + 1) (k + 1) s1 c2 c3 c4 :=
  Eq.trans (by kernel_rfl) (laws_toPack_code k (k + 1) s1 c2 c3 c4)
theorem run_laws_toPack_of {s1 : ByteArray} {c2 : Cell} {c3 : Cell} {c4 : Cell} {r : Res} (k : Nat) (h : laws_toPack (k + 1) (k + 1) s1 c2 c3 c4 = some r) : run_laws_toPack [.agg [Cell.str s1, c2, c3, c4]] [] = some r := lim_of ((laws_toPack_eq k s1 c2 c3 c4).trans h)
noncomputable def pl_laws_toPackS : List (Nat × Run) := [(fid_laws_toPack, run_laws_toPack)]
noncomputable def G_laws_toPackS : Ctx := ctx tyTab fiTab pl_laws_toPackS
noncomputable def run_laws_toPackS : Run := lim G_laws_toPackS fid_laws_toPackS
theorem ok_laws_toPackS : FnOk Try.prog OkT fid_laws_toPackS run_laws_toPackS := lim_ok (l := pl_laws_toPackS) Try_mix tyTab_ok fiTab_ok okT (.cons ok_laws_toPack .nil) fid_laws_toPackS
noncomputable def laws_toPackS_l0 (k m : Nat) : Nat → Cell → Cell → Int → List Entry → Option Res
  | 0, _, _, _, _ => none
  | n + 1, c3, c4, i5, H6 =>
    (lenC c3).bind fun n7 =>
    cond (decide (i5 < (n7 : Int)))
    ((idxA 4 (c3) i5).bind fun c8 =>
    (deref H6 (c8)).bind fun p9 =>
    (cS p9.1 p9.2).bind fun s10 =>
    (cC p9.1 (p9.2 + 1)).bind fun c11 =>
    (cC p9.1 ((p9.2 + 1) + 1)).bind fun c12 =>
    (cC p9.1 (((p9.2 + 1) + 1) + 1)).bind fun c13 =>
    (callF run_laws_toPack [.agg [Cell.str s10, c11, c12, c13]] H6).bind fun r14 =>
    cond (shapeOk rk_laws_toPack r14.1)
    ((cS (cellsAt r14.1 0) 0).bind fun s15 =>
    (cC (cellsAt r14.1 0) 1).bind fun c16 =>
    (cC (cellsAt r14.1 0) 2).bind fun c17 =>
    (cC (cellsAt r14.1 0) 3).bind fun c18 =>
    (idxA 4 (c4) i5).bind fun c19 =>
    (hStore r14.2 (c19) [Cell.str s15, c16, c17, c18]).bind fun h20 =>
    laws_toPackS_l0 k m n (c3) (c4) (IntKind.i64.wrap (i5 + 1)) h20)
    none)
    (some ([.one (c4)], H6))
noncomputable def laws_toPackS (k m : Nat) (c1 : Cell) : Option Res :=
  (lenC c1).bind fun n2 =>
  if 0 ≤ (n2 : Int) ∧ (n2 : Int) ≤ (n2 : Int) ∧ (n2 : Int) * 88 ≤ bound ∧ (n2 : Int) ≤ bound then
  (laws_toPackS_l0 k m m (c1) ((.vs 0 4 0 (n2 : Int).toNat 0)) 0 [Entry.mk 4 (mkRows (n2 : Int).toNat [Cell.str (bs []), .lst true 1 [], .lst true 2 [], .lst true 2 []]) 0 false]) else none
noncomputable abbrev laws_toPackS_l0_B (k m : Nat) : (Ex → Fr → Option Res) → Fr → Option Res := evC G_laws_toPackS fi_laws_toPackS (evF G_laws_toPackS (k + 1)) m (sub [1, 1, 0, 1, 2, 3] fi_laws_toPackS.code) none
noncomputable abbrev laws_toPackS_l0_K (k m : Nat) : Ex → Fr → Option Res := blockK 0 (seqK (evC G_laws_toPackS fi_laws_toPackS (evF G_laws_toPackS (k + 1)) m (sub [1, 1, 1] fi_laws_toPackS.code) none) (retK G_laws_toPackS fi_laws_toPackS))
theorem laws_toPackS_l0_eq (k m : Nat) : ∀ (n : Nat) (c3 : Cell) (c4 : Cell) (i5 : Int) (H6 : List Entry), loopK (some [0, 3, 4]) (laws_toPackS_l0_B k m) (laws_toPackS_l0_K k m) n ⟨fT 23 0 [(0, .av (.one (c3))), (3, .av (.one (c4))), (4, .av (.one (Cell.int i5)))], fX 23 0 [], H6⟩ = laws_toPackS_l0 (k + 1) m n c3 c4 i5 H6 := by
  intro n
  induction n with
  | zero => intros; rfl
  | succ n ih =>
    intros
    simp only [laws_toPackS_l0, ← ih]
    kernel_rfl
theorem laws_toPackS_code (k m : Nat) (c1 : Cell) : evC G_laws_toPackS fi_laws_toPackS (evF G_laws_toPackS (k + 1)) m fi_laws_toPackS.code none (retK G_laws_toPackS fi_laws_toPackS) (enter fi_laws_toPackS [.one (c1)] []) = laws_toPackS (k + 1) m c1 := by
  simp only [laws_toPackS, ← laws_toPackS_l0_eq k m]
  kernel_rfl
theorem laws_toPackS_eq (k : Nat) (c1 : Cell) : evF G_laws_toPackS (k + 2) fid_laws_toPackS [.one (c1)] [] = laws_toPackS (k + 1) (k + 1) c1 :=
  Eq.trans (by kernel_rfl) (laws_toPackS_code k (k + 1) c1)
theorem run_laws_toPackS_of {c1 : Cell} {r : Res} (k : Nat) (h : laws_toPackS (k + 1) (k + 1) c1 = some r) : run_laws_toPackS [.one (c1)] [] = some r := lim_of ((laws_toPackS_eq k c1).trans h)
noncomputable def pl_laws_eqNeed : List (Nat × Run) := []
noncomputable def G_laws_eqNeed : Ctx := ctx tyTab fiTab pl_laws_eqNeed
noncomputable def run_laws_eqNeed : Run := lim G_laws_eqNeed fid_laws_eqNeed
theorem ok_laws_eqNeed : FnOk Try.prog OkT fid_laws_eqNeed run_laws_eqNeed := lim_ok (l := pl_laws_eqNeed) Try_mix tyTab_ok fiTab_ok okT .nil fid_laws_eqNeed
noncomputable def laws_eqNeed (k m : Nat) (s1 : ByteArray) (s2 : ByteArray) (s3 : ByteArray) (s4 : ByteArray) : Option Res :=
  cond (!(s1.toList == s3.toList))
  (some ([.one (Cell.bool false)], []))
  (cond (!(s2.toList == s4.toList))
  (some ([.one (Cell.bool false)], []))
  (some ([.one (Cell.bool true)], [])))
theorem laws_eqNeed_code (k m : Nat) (s1 : ByteArray) (s2 : ByteArray) (s3 : ByteArray) (s4 : ByteArray) : evC G_laws_eqNeed fi_laws_eqNeed (evF G_laws_eqNeed (k + 1)) m fi_laws_eqNeed.code none (retK G_laws_eqNeed fi_laws_eqNeed) (enter fi_laws_eqNeed [.agg [Cell.str s1, Cell.str s2], .agg [Cell.str s3, Cell.str s4]] []) = laws_eqNeed (k + 1) m s1 s2 s3 s4 := by
  kernel_rfl
theorem laws_eqNeed_eq (k : Nat) (s1 : ByteArray) (s2 : ByteArray) (s3 : ByteArray) (s4 : ByteArray) : evF G_laws_eqNeed (k + 2) fid_laws_eqNeed [.agg [Cell.str s1, Cell.str s2], .agg [Cell.str s3, Cell.str s4]] [] = laws_eqNeed (k + 1) (k + 1) s1 s2 s3 s4 :=
  Eq.trans (by kernel_rfl) (laws_eqNeed_code k (k + 1) s1 s2 s3 s4)
theorem run_laws_eqNeed_of {s1 : ByteArray} {s2 : ByteArray} {s3 : ByteArray} {s4 : ByteArray} {r : Res} (k : Nat) (h : laws_eqNeed (k + 1) (k + 1) s1 s2 s3 s4 = some r) : run_laws_eqNeed [.agg [Cell.str s1, Cell.str s2], .agg [Cell.str s3, Cell.str s4]] [] = some r := lim_of ((laws_eqNeed_eq k s1 s2 s3 s4).trans h)
noncomputable def pl_laws_eqNeedS : List (Nat × Run) := [(fid_laws_eqNeed, run_laws_eqNeed)]
noncomputable def G_laws_eqNeedS : Ctx := ctx tyTab fiTab pl_laws_eqNeedS
noncomputable def run_laws_eqNeedS : Run := lim G_laws_eqNeedS fid_laws_eqNeedS
theorem ok_laws_eqNeedS : FnOk Try.prog OkT fid_laws_eqNeedS run_laws_eqNeedS := lim_ok (l := pl_laws_eqNeedS) Try_mix tyTab_ok fiTab_ok okT (.cons ok_laws_eqNeed .nil) fid_laws_eqNeedS
noncomputable def laws_eqNeedS_l0 (k m : Nat) : Nat → Cell → Cell → Int → Option Res
  | 0, _, _, _ => none
  | n + 1, c5, c6, i7 =>
    (lenC c5).bind fun n8 =>
    cond (decide (i7 < (n8 : Int)))
    ((idxA 2 (c5) i7).bind fun c9 =>
    (deref [] (c9)).bind fun p10 =>
    (cS p10.1 p10.2).bind fun s11 =>
    (cS p10.1 (p10.2 + 1)).bind fun s12 =>
    (idxA 2 (c6) i7).bind fun c13 =>
    (deref [] (c13)).bind fun p14 =>
    (cS p14.1 p14.2).bind fun s15 =>
    (cS p14.1 (p14.2 + 1)).bind fun s16 =>
    (callS run_laws_eqNeed [.agg [Cell.str s11, Cell.str s12], .agg [Cell.str s15, Cell.str s16]] []).bind fun r17 =>
    cond (shapeOk rk_laws_eqNeed r17)
    ((cB (cellsAt r17 0) 0).bind fun b18 =>
    cond (!b18)
    (some ([.one (Cell.bool false)], []))
    (laws_eqNeedS_l0 k m n (c5) (c6) (IntKind.i64.wrap (i7 + 1))))
    none)
    (some ([.one (Cell.bool true)], []))
noncomputable def laws_eqNeedS (k m : Nat) (c1 : Cell) (c2 : Cell) : Option Res :=
  (lenC c1).bind fun n3 =>
  (lenC c2).bind fun n4 =>
  cond ((n3 : Int) != (n4 : Int))
  (some ([.one (Cell.bool false)], []))
  (laws_eqNeedS_l0 k m m (c1) (c2) 0)
noncomputable abbrev laws_eqNeedS_l0_B (k m : Nat) : (Ex → Fr → Option Res) → Fr → Option Res := evC G_laws_eqNeedS fi_laws_eqNeedS (evF G_laws_eqNeedS (k + 1)) m (sub [1, 1, 0, 1, 2, 3] fi_laws_eqNeedS.code) none
noncomputable abbrev laws_eqNeedS_l0_K (k m : Nat) : Ex → Fr → Option Res := blockK 0 (seqK (evC G_laws_eqNeedS fi_laws_eqNeedS (evF G_laws_eqNeedS (k + 1)) m (sub [1, 1, 1] fi_laws_eqNeedS.code) none) (retK G_laws_eqNeedS fi_laws_eqNeedS))
theorem laws_eqNeedS_l0_eq (k m : Nat) : ∀ (n : Nat) (c5 : Cell) (c6 : Cell) (i7 : Int), loopK (some [0, 1, 5]) (laws_eqNeedS_l0_B k m) (laws_eqNeedS_l0_K k m) n ⟨fT 27 0 [(0, .av (.one (c5))), (1, .av (.one (c6))), (5, .av (.one (Cell.int i7)))], fX 27 0 [], []⟩ = laws_eqNeedS_l0 (k + 1) m n c5 c6 i7 := by
  intro n
  induction n with
  | zero => intros; rfl
  | succ n ih =>
    intros
    simp only [laws_eqNeedS_l0, ← ih]
    kernel_rfl
theorem laws_eqNeedS_code (k m : Nat) (c1 : Cell) (c2 : Cell) : evC G_laws_eqNeedS fi_laws_eqNeedS (evF G_laws_eqNeedS (k + 1)) m fi_laws_eqNeedS.code none (retK G_laws_eqNeedS fi_laws_eqNeedS) (enter fi_laws_eqNeedS [.one (c1), .one (c2)] []) = laws_eqNeedS (k + 1) m c1 c2 := by
  simp only [laws_eqNeedS, ← laws_eqNeedS_l0_eq k m]
  kernel_rfl
theorem laws_eqNeedS_eq (k : Nat) (c1 : Cell) (c2 : Cell) : evF G_laws_eqNeedS (k + 2) fid_laws_eqNeedS [.one (c1), .one (c2)] [] = laws_eqNeedS (k + 1) (k + 1) c1 c2 :=
  Eq.trans (by kernel_rfl) (laws_eqNeedS_code k (k + 1) c1 c2)
theorem run_laws_eqNeedS_of {c1 : Cell} {c2 : Cell} {r : Res} (k : Nat) (h : laws_eqNeedS (k + 1) (k + 1) c1 c2 = some r) : run_laws_eqNeedS [.one (c1), .one (c2)] [] = some r := lim_of ((laws_eqNeedS_eq k c1 c2).trans h)
noncomputable def pl_laws_eqCmd : List (Nat × Run) := [(fid_laws_eqStringS, run_laws_eqStringS)]
noncomputable def G_laws_eqCmd : Ctx := ctx tyTab fiTab pl_laws_eqCmd
noncomputable def run_laws_eqCmd : Run := lim G_laws_eqCmd fid_laws_eqCmd
theorem ok_laws_eqCmd : FnOk Try.prog OkT fid_laws_eqCmd run_laws_eqCmd := lim_ok (l := pl_laws_eqCmd) Try_mix tyTab_ok fiTab_ok okT (.cons ok_laws_eqStringS .nil) fid_laws_eqCmd
noncomputable def laws_eqCmd (k m : Nat) (s1 : ByteArray) (c2 : Cell) (s3 : ByteArray) (c4 : Cell) : Option Res :=
  cond (!(s1.toList == s3.toList))
  (some ([.one (Cell.bool false)], []))
  ((callS run_laws_eqStringS [.one (c2), .one (c4)] []).bind fun r5 =>
  cond (shapeOk rk_laws_eqStringS r5)
  ((cB (cellsAt r5 0) 0).bind fun b6 =>
  cond (!b6)
  (some ([.one (Cell.bool false)], []))
  (some ([.one (Cell.bool true)], [])))
  none)
theorem laws_eqCmd_code (k m : Nat) (s1 : ByteArray) (c2 : Cell) (s3 : ByteArray) (c4 : Cell) : evC G_laws_eqCmd fi_laws_eqCmd (evF G_laws_eqCmd (k + 1)) m fi_laws_eqCmd.code none (retK G_laws_eqCmd fi_laws_eqCmd) (enter fi_laws_eqCmd [.agg [Cell.str s1, c2], .agg [Cell.str s3, c4]] []) = laws_eqCmd (k + 1) m s1 c2 s3 c4 := by
  kernel_rfl
theorem laws_eqCmd_eq (k : Nat) (s1 : ByteArray) (c2 : Cell) (s3 : ByteArray) (c4 : Cell) : evF G_laws_eqCmd (k + 2) fid_laws_eqCmd [.agg [Cell.str s1, c2], .agg [Cell.str s3, c4]] [] = laws_eqCmd (k + 1) (k + 1) s1 c2 s3 c4 :=
  Eq.trans (by kernel_rfl) (laws_eqCmd_code k (k + 1) s1 c2 s3 c4)
theorem run_laws_eqCmd_of {s1 : ByteArray} {c2 : Cell} {s3 : ByteArray} {c4 : Cell} {r : Res} (k : Nat) (h : laws_eqCmd (k + 1) (k + 1) s1 c2 s3 c4 = some r) : run_laws_eqCmd [.agg [Cell.str s1, c2], .agg [Cell.str s3, c4]] [] = some r := lim_of ((laws_eqCmd_eq k s1 c2 s3 c4).trans h)
noncomputable def pl_laws_eqCmdS : List (Nat × Run) := [(fid_laws_eqCmd, run_laws_eqCmd)]
noncomputable def G_laws_eqCmdS : Ctx := ctx tyTab fiTab pl_laws_eqCmdS
noncomputable def run_laws_eqCmdS : Run := lim G_laws_eqCmdS fid_laws_eqCmdS
theorem ok_laws_eqCmdS : FnOk Try.prog OkT fid_laws_eqCmdS run_laws_eqCmdS := lim_ok (l := pl_laws_eqCmdS) Try_mix tyTab_ok fiTab_ok okT (.cons ok_laws_eqCmd .nil) fid_laws_eqCmdS
noncomputable def laws_eqCmdS_l0 (k m : Nat) : Nat → Cell → Cell → Int → Option Res
  | 0, _, _, _ => none
  | n + 1, c5, c6, i7 =>
    (lenC c5).bind fun n8 =>
    cond (decide (i7 < (n8 : Int)))
    ((idxA 2 (c5) i7).bind fun c9 =>
    (deref [] (c9)).bind fun p10 =>
    (cS p10.1 p10.2).bind fun s11 =>
    (cC p10.1 (p10.2 + 1)).bind fun c12 =>
    (idxA 2 (c6) i7).bind fun c13 =>
    (deref [] (c13)).bind fun p14 =>
    (cS p14.1 p14.2).bind fun s15 =>
    (cC p14.1 (p14.2 + 1)).bind fun c16 =>
    (callS run_laws_eqCmd [.agg [Cell.str s11, c12], .agg [Cell.str s15, c16]] []).bind fun r17 =>
    cond (shapeOk rk_laws_eqCmd r17)
    ((cB (cellsAt r17 0) 0).bind fun b18 =>
    cond (!b18)
    (some ([.one (Cell.bool false)], []))
    (laws_eqCmdS_l0 k m n (c5) (c6) (IntKind.i64.wrap (i7 + 1))))
    none)
    (some ([.one (Cell.bool true)], []))
noncomputable def laws_eqCmdS (k m : Nat) (c1 : Cell) (c2 : Cell) : Option Res :=
  (lenC c1).bind fun n3 =>
  (lenC c2).bind fun n4 =>
  cond ((n3 : Int) != (n4 : Int))
  (some ([.one (Cell.bool false)], []))
  (laws_eqCmdS_l0 k m m (c1) (c2) 0)
noncomputable abbrev laws_eqCmdS_l0_B (k m : Nat) : (Ex → Fr → Option Res) → Fr → Option Res := evC G_laws_eqCmdS fi_laws_eqCmdS (evF G_laws_eqCmdS (k + 1)) m (sub [1, 1, 0, 1, 2, 3] fi_laws_eqCmdS.code) none
noncomputable abbrev laws_eqCmdS_l0_K (k m : Nat) : Ex → Fr → Option Res := blockK 0 (seqK (evC G_laws_eqCmdS fi_laws_eqCmdS (evF G_laws_eqCmdS (k + 1)) m (sub [1, 1, 1] fi_laws_eqCmdS.code) none) (retK G_laws_eqCmdS fi_laws_eqCmdS))
theorem laws_eqCmdS_l0_eq (k m : Nat) : ∀ (n : Nat) (c5 : Cell) (c6 : Cell) (i7 : Int), loopK (some [0, 1, 5]) (laws_eqCmdS_l0_B k m) (laws_eqCmdS_l0_K k m) n ⟨fT 27 0 [(0, .av (.one (c5))), (1, .av (.one (c6))), (5, .av (.one (Cell.int i7)))], fX 27 0 [], []⟩ = laws_eqCmdS_l0 (k + 1) m n c5 c6 i7 := by
  intro n
  induction n with
  | zero => intros; rfl
  | succ n ih =>
    intros
    simp only [laws_eqCmdS_l0, ← ih]
    kernel_rfl
theorem laws_eqCmdS_code (k m : Nat) (c1 : Cell) (c2 : Cell) : evC G_laws_eqCmdS fi_laws_eqCmdS (evF G_laws_eqCmdS (k + 1)) m fi_laws_eqCmdS.code none (retK G_laws_eqCmdS fi_laws_eqCmdS) (enter fi_laws_eqCmdS [.one (c1), .one (c2)] []) = laws_eqCmdS (k + 1) m c1 c2 := by
  simp only [laws_eqCmdS, ← laws_eqCmdS_l0_eq k m]
  kernel_rfl
theorem laws_eqCmdS_eq (k : Nat) (c1 : Cell) (c2 : Cell) : evF G_laws_eqCmdS (k + 2) fid_laws_eqCmdS [.one (c1), .one (c2)] [] = laws_eqCmdS (k + 1) (k + 1) c1 c2 :=
  Eq.trans (by kernel_rfl) (laws_eqCmdS_code k (k + 1) c1 c2)
theorem run_laws_eqCmdS_of {c1 : Cell} {c2 : Cell} {r : Res} (k : Nat) (h : laws_eqCmdS (k + 1) (k + 1) c1 c2 = some r) : run_laws_eqCmdS [.one (c1), .one (c2)] [] = some r := lim_of ((laws_eqCmdS_eq k c1 c2).trans h)
noncomputable def pl_laws_eqPack : List (Nat × Run) := [(fid_laws_eqStringS, run_laws_eqStringS), (fid_laws_eqNeedS, run_laws_eqNeedS), (fid_laws_eqCmdS, run_laws_eqCmdS)]
noncomputable def G_laws_eqPack : Ctx := ctx tyTab fiTab pl_laws_eqPack
noncomputable def run_laws_eqPack : Run := lim G_laws_eqPack fid_laws_eqPack
theorem ok_laws_eqPack : FnOk Try.prog OkT fid_laws_eqPack run_laws_eqPack := lim_ok (l := pl_laws_eqPack) Try_mix tyTab_ok fiTab_ok okT (.cons ok_laws_eqStringS (.cons ok_laws_eqNeedS (.cons ok_laws_eqCmdS .nil))) fid_laws_eqPack
noncomputable def laws_eqPack (k m : Nat) (s1 : ByteArray) (c2 : Cell) (c3 : Cell) (c4 : Cell) (s5 : ByteArray) (c6 : Cell) (c7 : Cell) (c8 : Cell) : Option Res :=
  cond (!(s1.toList == s5.toList))
  (some ([.one (Cell.bool false)], []))
  ((callS run_laws_eqStringS [.one (c2), .one (c6)] []).bind fun r9 =>
  cond (shapeOk rk_laws_eqStringS r9)
  ((cB (cellsAt r9 0) 0).bind fun b10 =>
  cond (!b10)
  (some ([.one (Cell.bool false)], []))
  ((callS run_laws_eqNeedS [.one (c3), .one (c7)] []).bind fun r11 =>
  cond (shapeOk rk_laws_eqNeedS r11)
  ((cB (cellsAt r11 0) 0).bind fun b12 =>
  cond (!b12)
  (some ([.one (Cell.bool false)], []))
  ((callS run_laws_eqCmdS [.one (c4), .one (c8)] []).bind fun r13 =>
  cond (shapeOk rk_laws_eqCmdS r13)
  ((cB (cellsAt r13 0) 0).bind fun b14 =>
  cond (!b14)
  (some ([.one (Cell.bool false)], []))
  (some ([.one (Cell.bool true)], [])))
  none))
  none))
  none)
theorem laws_eqPack_code (k m : Nat) (s1 : ByteArray) (c2 : Cell) (c3 : Cell) (c4 : Cell) (s5 : ByteArray) (c6 : Cell) (c7 : Cell) (c8 : Cell) : evC G_laws_eqPack fi_laws_eqPack (evF G_laws_eqPack (k + 1)) m fi_laws_eqPack.code none (retK G_laws_eqPack fi_laws_eqPack) (enter fi_laws_eqPack [.agg [Cell.str s1, c2, c3, c4], .agg [Cell.str s5, c6, c7, c8]] []) = laws_eqPack (k + 1) m s1 c2 c3 c4 s5 c6 c7 c8 := by
  kernel_rfl
theorem laws_eqPack_eq (k : Nat) (s1 : ByteArray) (c2 : Cell) (c3 : Cell) (c4 : Cell) (s5 : ByteArray) (c6 : Cell) (c7 : Cell) (c8 : Cell) : evF G_laws_eqPack (k + 2) fid_laws_eqPack [.agg [Cell.str s1, c2, c3, c4], .agg [Cell.str s5, c6, c7, c8]] [] = laws_eqPack (k + 1) (k + 1) s1 c2 c3 c4 s5 c6 c7 c8 :=
  Eq.trans (by kernel_rfl) (laws_eqPack_code k (k + 1) s1 c2 c3 c4 s5 c6 c7 c8)
theorem run_laws_eqPack_of {s1 : ByteArray} {c2 : Cell} {c3 : Cell} {c4 : Cell} {s5 : ByteArray} {c6 : Cell} {c7 : Cell} {c8 : Cell} {r : Res} (k : Nat) (h : laws_eqPack (k + 1) (k + 1) s1 c2 c3 c4 s5 c6 c7 c8 = some r) : run_laws_eqPack [.agg [Cell.str s1, c2, c3, c4], .agg [Cell.str s5, c6, c7, c8]] [] = some r := lim_of ((laws_eqPack_eq k s1 c2 c3 c4 s5 c6 c7 c8).trans h)
noncomputable def pl_laws_eqPackS : List (Nat × Run) := [(fid_laws_eqPack, run_laws_eqPack)]
noncomputable def G_laws_eqPackS : Ctx := ctx tyTab fiTab pl_laws_eqPackS
noncomputable def run_laws_eqPackS : Run := lim G_laws_eqPackS fid_laws_eqPackS
theorem ok_laws_eqPackS : FnOk Try.prog OkT fid_laws_eqPackS run_laws_eqPackS := lim_ok (l := pl_laws_eqPackS) Try_mix tyTab_ok fiTab_ok okT (.cons ok_laws_eqPack .nil) fid_laws_eqPackS
noncomputable def laws_eqPackS_l0 (k m : Nat) : Nat → Cell → Cell → Int → Option Res
  | 0, _, _, _ => none
  | n + 1, c5, c6, i7 =>
    (lenC c5).bind fun n8 =>
    cond (decide (i7 < (n8 : Int)))
    ((idxA 4 (c5) i7).bind fun c9 =>
    (deref [] (c9)).bind fun p10 =>
    (cS p10.1 p10.2).bind fun s11 =>
    (cC p10.1 (p10.2 + 1)).bind fun c12 =>
    (cC p10.1 ((p10.2 + 1) + 1)).bind fun c13 =>
    (cC p10.1 (((p10.2 + 1) + 1) + 1)).bind fun c14 =>
    (idxA 4 (c6) i7).bind fun c15 =>
    (deref [] (c15)).bind fun p16 =>
    (cS p16.1 p16.2).bind fun s17 =>
    (cC p16.1 (p16.2 + 1)).bind fun c18 =>
    (cC p16.1 ((p16.2 + 1) + 1)).bind fun c19 =>
    (cC p16.1 (((p16.2 + 1) + 1) + 1)).bind fun c20 =>
    (callS run_laws_eqPack [.agg [Cell.str s11, c12, c13, c14], .agg [Cell.str s17, c18, c19, c20]] []).bind fun r21 =>
    cond (shapeOk rk_laws_eqPack r21)
    ((cB (cellsAt r21 0) 0).bind fun b22 =>
    cond (!b22)
    (some ([.one (Cell.bool false)], []))
    (laws_eqPackS_l0 k m n (c5) (c6) (IntKind.i64.wrap (i7 + 1))))
    none)
    (some ([.one (Cell.bool true)], []))
noncomputable def laws_eqPackS (k m : Nat) (c1 : Cell) (c2 : Cell) : Option Res :=
  (lenC c1).bind fun n3 =>
  (lenC c2).bind fun n4 =>
  cond ((n3 : Int) != (n4 : Int))
  (some ([.one (Cell.bool false)], []))
  (laws_eqPackS_l0 k m m (c1) (c2) 0)
noncomputable abbrev laws_eqPackS_l0_B (k m : Nat) : (Ex → Fr → Option Res) → Fr → Option Res := evC G_laws_eqPackS fi_laws_eqPackS (evF G_laws_eqPackS (k + 1)) m (sub [1, 1, 0, 1, 2, 3] fi_laws_eqPackS.code) none
noncomputable abbrev laws_eqPackS_l0_K (k m : Nat) : Ex → Fr → Option Res := blockK 0 (seqK (evC G_laws_eqPackS fi_laws_eqPackS (evF G_laws_eqPackS (k + 1)) m (sub [1, 1, 1] fi_laws_eqPackS.code) none) (retK G_laws_eqPackS fi_laws_eqPackS))
theorem laws_eqPackS_l0_eq (k m : Nat) : ∀ (n : Nat) (c5 : Cell) (c6 : Cell) (i7 : Int), loopK (some [0, 1, 5]) (laws_eqPackS_l0_B k m) (laws_eqPackS_l0_K k m) n ⟨fT 27 0 [(0, .av (.one (c5))), (1, .av (.one (c6))), (5, .av (.one (Cell.int i7)))], fX 27 0 [], []⟩ = laws_eqPackS_l0 (k + 1) m n c5 c6 i7 := by
  intro n
  induction n with
  | zero => intros; rfl
  | succ n ih =>
    intros
    simp only [laws_eqPackS_l0, ← ih]
    kernel_rfl
theorem laws_eqPackS_code (k m : Nat) (c1 : Cell) (c2 : Cell) : evC G_laws_eqPackS fi_laws_eqPackS (evF G_laws_eqPackS (k + 1)) m fi_laws_eqPackS.code none (retK G_laws_eqPackS fi_laws_eqPackS) (enter fi_laws_eqPackS [.one (c1), .one (c2)] []) = laws_eqPackS (k + 1) m c1 c2 := by
  simp only [laws_eqPackS, ← laws_eqPackS_l0_eq k m]
  kernel_rfl
theorem laws_eqPackS_eq (k : Nat) (c1 : Cell) (c2 : Cell) : evF G_laws_eqPackS (k + 2) fid_laws_eqPackS [.one (c1), .one (c2)] [] = laws_eqPackS (k + 1) (k + 1) c1 c2 :=
  Eq.trans (by kernel_rfl) (laws_eqPackS_code k (k + 1) c1 c2)
theorem run_laws_eqPackS_of {c1 : Cell} {c2 : Cell} {r : Res} (k : Nat) (h : laws_eqPackS (k + 1) (k + 1) c1 c2 = some r) : run_laws_eqPackS [.one (c1), .one (c2)] [] = some r := lim_of ((laws_eqPackS_eq k c1 c2).trans h)
noncomputable def pl_laws_markNeedS : List (Nat × Run) := [(fid_laws_markText, run_laws_markText)]
noncomputable def G_laws_markNeedS : Ctx := ctx tyTab fiTab pl_laws_markNeedS
noncomputable def run_laws_markNeedS : Run := lim G_laws_markNeedS fid_laws_markNeedS
theorem ok_laws_markNeedS : FnOk Try.prog OkT fid_laws_markNeedS run_laws_markNeedS := lim_ok (l := pl_laws_markNeedS) Try_mix tyTab_ok fiTab_ok okT (.cons ok_laws_markText .nil) fid_laws_markNeedS
noncomputable def laws_markNeedS_l0 (k m : Nat) : Nat → Cell → Int → Int → List Entry → Option Res
  | 0, _, _, _, _ => none
  | n + 1, c3, i4, i5, H6 =>
    (lenC c3).bind fun n7 =>
    cond (decide (i5 < (n7 : Int)))
    ((callS run_laws_markText [.one (Cell.int i4)] H6).bind fun r8 =>
    cond (shapeOk rk_laws_markText r8)
    ((cS (cellsAt r8 0) 0).bind fun s9 =>
    (idxA 2 (c3) i5).bind fun c10 =>
    (fldA c10 0).bind fun c11 =>
    (hStore H6 (c11) [Cell.str s9]).bind fun h12 =>
    (callS run_laws_markText [.one (Cell.int (IntKind.i64.wrap (i4 + 1)))] h12).bind fun r13 =>
    cond (shapeOk rk_laws_markText r13)
    ((cS (cellsAt r13 0) 0).bind fun s14 =>
    (idxA 2 (c3) i5).bind fun c15 =>
    (fldA c15 1).bind fun c16 =>
    (hStore h12 (c16) [Cell.str s14]).bind fun h17 =>
    laws_markNeedS_l0 k m n (c3) (IntKind.i64.wrap ((IntKind.i64.wrap (i4 + 1)) + 1)) (IntKind.i64.wrap (i5 + 1)) h17)
    none)
    none)
    (some ([.one (Cell.int i4)], H6))
noncomputable def laws_markNeedS (k m : Nat) (c1 : Cell) (i2 : Int) (H : List Entry) : Option Res :=
  laws_markNeedS_l0 k m m (c1) i2 0 H
noncomputable abbrev laws_markNeedS_l0_B (k m : Nat) : (Ex → Fr → Option Res) → Fr → Option Res := evC G_laws_markNeedS fi_laws_markNeedS (evF G_laws_markNeedS (k + 1)) m (sub [1, 0, 1, 2, 3] fi_laws_markNeedS.code) none
noncomputable abbrev laws_markNeedS_l0_K (k m : Nat) : Ex → Fr → Option Res := blockK 0 (seqK (evC G_laws_markNeedS fi_laws_markNeedS (evF G_laws_markNeedS (k + 1)) m (sub [1, 1] fi_laws_markNeedS.code) none) (retK G_laws_markNeedS fi_laws_markNeedS))
theorem laws_markNeedS_l0_eq (k m : Nat) : ∀ (n : Nat) (c3 : Cell) (i4 : Int) (i5 : Int) (H6 : List Entry), loopK (some [0, 1, 5]) (laws_markNeedS_l0_B k m) (laws_markNeedS_l0_K k m) n ⟨fT 29 0 [(0, .av (.one (c3))), (1, .av (.one (Cell.int i4))), (5, .av (.one (Cell.int i5)))], fX 29 0 [], H6⟩ = laws_markNeedS_l0 (k + 1) m n c3 i4 i5 H6 := by
  intro n
  induction n with
  | zero => intros; rfl
  | succ n ih =>
    intros
    simp only [laws_markNeedS_l0, ← ih]
    kernel_rfl
theorem laws_markNeedS_code (k m : Nat) (c1 : Cell) (i2 : Int) (H : List Entry) : evC G_laws_markNeedS fi_laws_markNeedS (evF G_laws_markNeedS (k + 1)) m fi_laws_markNeedS.code none (retK G_laws_markNeedS fi_laws_markNeedS) (enter fi_laws_markNeedS [.one (c1), .one (Cell.int i2)] H) = laws_markNeedS (k + 1) m c1 i2 H := by
  simp only [laws_markNeedS, ← laws_markNeedS_l0_eq k m]
  kernel_rfl
theorem laws_markNeedS_eq (k : Nat) (c1 : Cell) (i2 : Int) (H : List Entry) : evF G_laws_markNeedS (k + 2) fid_laws_markNeedS [.one (c1), .one (Cell.int i2)] H = laws_markNeedS (k + 1) (k + 1) c1 i2 H :=
  Eq.trans (by kernel_rfl) (laws_markNeedS_code k (k + 1) c1 i2 H)
theorem run_laws_markNeedS_of {c1 : Cell} {i2 : Int} {H : List Entry} {r : Res} (k : Nat) (h : laws_markNeedS (k + 1) (k + 1) c1 i2 H = some r) : run_laws_markNeedS [.one (c1), .one (Cell.int i2)] H = some r := lim_of ((laws_markNeedS_eq k c1 i2 H).trans h)
noncomputable def pl_laws_markCmdS : List (Nat × Run) := [(fid_laws_markStringS, run_laws_markStringS), (fid_laws_markText, run_laws_markText)]
noncomputable def G_laws_markCmdS : Ctx := ctx tyTab fiTab pl_laws_markCmdS
noncomputable def run_laws_markCmdS : Run := lim G_laws_markCmdS fid_laws_markCmdS
theorem ok_laws_markCmdS : FnOk Try.prog OkT fid_laws_markCmdS run_laws_markCmdS := lim_ok (l := pl_laws_markCmdS) Try_mix tyTab_ok fiTab_ok okT (.cons ok_laws_markStringS (.cons ok_laws_markText .nil)) fid_laws_markCmdS
noncomputable def laws_markCmdS_l0 (k m : Nat) : Nat → Cell → Int → Int → List Entry → Option Res
  | 0, _, _, _, _ => none
  | n + 1, c3, i4, i5, H6 =>
    (lenC c3).bind fun n7 =>
    cond (decide (i5 < (n7 : Int)))
    ((callS run_laws_markText [.one (Cell.int i4)] H6).bind fun r8 =>
    cond (shapeOk rk_laws_markText r8)
    ((cS (cellsAt r8 0) 0).bind fun s9 =>
    (idxA 2 (c3) i5).bind fun c10 =>
    (fldA c10 0).bind fun c11 =>
    (hStore H6 (c11) [Cell.str s9]).bind fun h12 =>
    (idxA 2 (c3) i5).bind fun c13 =>
    (fldA c13 1).bind fun c14 =>
    (deref h12 (c14)).bind fun p15 =>
    (cC p15.1 p15.2).bind fun c16 =>
    (run_laws_markStringS [.one (c16), .one (Cell.int (IntKind.i64.wrap (i4 + 1)))] h12).bind fun r17 =>
    cond (shapeOk rk_laws_markStringS r17.1)
    ((cI .i64 (cellsAt r17.1 0) 0).bind fun i18 =>
    laws_markCmdS_l0 k m n (c3) i18 (IntKind.i64.wrap (i5 + 1)) r17.2)
    none)
    none)
    (some ([.one (Cell.int i4)], H6))
noncomputable def laws_markCmdS (k m : Nat) (c1 : Cell) (i2 : Int) (H : List Entry) : Option Res :=
  laws_markCmdS_l0 k m m (c1) i2 0 H
noncomputable abbrev laws_markCmdS_l0_B (k m : Nat) : (Ex → Fr → Option Res) → Fr → Option Res := evC G_laws_markCmdS fi_laws_markCmdS (evF G_laws_markCmdS (k + 1)) m (sub [1, 0, 1, 2, 3] fi_laws_markCmdS.code) none
noncomputable abbrev laws_markCmdS_l0_K (k m : Nat) : Ex → Fr → Option Res := blockK 0 (seqK (evC G_laws_markCmdS fi_laws_markCmdS (evF G_laws_markCmdS (k + 1)) m (sub [1, 1] fi_laws_markCmdS.code) none) (retK G_laws_markCmdS fi_laws_markCmdS))
theorem laws_markCmdS_l0_eq (k m : Nat) : ∀ (n : Nat) (c3 : Cell) (i4 : Int) (i5 : Int) (H6 : List Entry), loopK (some [0, 1, 5]) (laws_markCmdS_l0_B k m) (laws_markCmdS_l0_K k m) n ⟨fT 28 0 [(0, .av (.one (c3))), (1, .av (.one (Cell.int i4))), (5, .av (.one (Cell.int i5)))], fX 28 0 [], H6⟩ = laws_markCmdS_l0 (k + 1) m n c3 i4 i5 H6 := by
  intro n
  induction n with
  | zero => intros; rfl
  | succ n ih =>
    intros
    simp only [laws_markCmdS_l0, ← ih]
    kernel_rfl
theorem laws_markCmdS_code (k m : Nat) (c1 : Cell) (i2 : Int) (H : List Entry) : evC G_laws_markCmdS fi_laws_markCmdS (evF G_laws_markCmdS (k + 1)) m fi_laws_markCmdS.code none (retK G_laws_markCmdS fi_laws_markCmdS) (enter fi_laws_markCmdS [.one (c1), .one (Cell.int i2)] H) = laws_markCmdS (k + 1) m c1 i2 H := by
  simp only [laws_markCmdS, ← laws_markCmdS_l0_eq k m]
  kernel_rfl
theorem laws_markCmdS_eq (k : Nat) (c1 : Cell) (i2 : Int) (H : List Entry) : evF G_laws_markCmdS (k + 2) fid_laws_markCmdS [.one (c1), .one (Cell.int i2)] H = laws_markCmdS (k + 1) (k + 1) c1 i2 H :=
  Eq.trans (by kernel_rfl) (laws_markCmdS_code k (k + 1) c1 i2 H)
theorem run_laws_markCmdS_of {c1 : Cell} {i2 : Int} {H : List Entry} {r : Res} (k : Nat) (h : laws_markCmdS (k + 1) (k + 1) c1 i2 H = some r) : run_laws_markCmdS [.one (c1), .one (Cell.int i2)] H = some r := lim_of ((laws_markCmdS_eq k c1 i2 H).trans h)
noncomputable def pl_laws_markPackS : List (Nat × Run) := [(fid_laws_markStringS, run_laws_markStringS), (fid_laws_markText, run_laws_markText), (fid_laws_markNeedS, run_laws_markNeedS), (fid_laws_markCmdS, run_laws_markCmdS)]
noncomputable def G_laws_markPackS : Ctx := ctx tyTab fiTab pl_laws_markPackS
noncomputable def run_laws_markPackS : Run := lim G_laws_markPackS fid_laws_markPackS
theorem ok_laws_markPackS : FnOk Try.prog OkT fid_laws_markPackS run_laws_markPackS := lim_ok (l := pl_laws_markPackS) Try_mix tyTab_ok fiTab_ok okT (.cons ok_laws_markStringS (.cons ok_laws_markText (.cons ok_laws_markNeedS (.cons ok_laws_markCmdS .nil)))) fid_laws_markPackS
noncomputable def laws_markPackS_l0 (k m : Nat) : Nat → Cell → Int → Int → List Entry → Option Res
  | 0, _, _, _, _ => none
  | n + 1, c3, i4, i5, H6 =>
    (lenC c3).bind fun n7 =>
    cond (decide (i5 < (n7 : Int)))
    ((callS run_laws_markText [.one (Cell.int i4)] H6).bind fun r8 =>
    cond (shapeOk rk_laws_markText r8)
    ((cS (cellsAt r8 0) 0).bind fun s9 =>
    (idxA 4 (c3) i5).bind fun c10 =>
    (fldA c10 0).bind fun c11 =>
    (hStore H6 (c11) [Cell.str s9]).bind fun h12 =>
    (idxA 4 (c3) i5).bind fun c13 =>
    (fldA c13 1).bind fun c14 =>
    (deref h12 (c14)).bind fun p15 =>
    (cC p15.1 p15.2).bind fun c16 =>
    (run_laws_markStringS [.one (c16), .one (Cell.int (IntKind.i64.wrap (i4 + 1)))] h12).bind fun r17 =>
    cond (shapeOk rk_laws_markStringS r17.1)
    ((cI .i64 (cellsAt r17.1 0) 0).bind fun i18 =>
    (idxA 4 (c3) i5).bind fun c19 =>
    (fldA c19 2).bind fun c20 =>
    (deref r17.2 (c20)).bind fun p21 =>
    (cC p21.1 p21.2).bind fun c22 =>
    (run_laws_markNeedS [.one (c22), .one (Cell.int i18)] r17.2).bind fun r23 =>
    cond (shapeOk rk_laws_markNeedS r23.1)
    ((cI .i64 (cellsAt r23.1 0) 0).bind fun i24 =>
    (idxA 4 (c3) i5).bind fun c25 =>
    (fldA c25 3).bind fun c26 =>
    (deref r23.2 (c26)).bind fun p27 =>
    (cC p27.1 p27.2).bind fun c28 =>
    (run_laws_markCmdS [.one (c28), .one (Cell.int i24)] r23.2).bind fun r29 =>
    cond (shapeOk rk_laws_markCmdS r29.1)
    ((cI .i64 (cellsAt r29.1 0) 0).bind fun i30 =>
    laws_markPackS_l0 k m n (c3) i30 (IntKind.i64.wrap (i5 + 1)) r29.2)
    none)
    none)
    none)
    none)
    (some ([.one (Cell.int i4)], H6))
noncomputable def laws_markPackS (k m : Nat) (c1 : Cell) (i2 : Int) (H : List Entry) : Option Res :=
  laws_markPackS_l0 k m m (c1) i2 0 H
noncomputable abbrev laws_markPackS_l0_B (k m : Nat) : (Ex → Fr → Option Res) → Fr → Option Res := evC G_laws_markPackS fi_laws_markPackS (evF G_laws_markPackS (k + 1)) m (sub [1, 0, 1, 2, 3] fi_laws_markPackS.code) none
noncomputable abbrev laws_markPackS_l0_K (k m : Nat) : Ex → Fr → Option Res := blockK 0 (seqK (evC G_laws_markPackS fi_laws_markPackS (evF G_laws_markPackS (k + 1)) m (sub [1, 1] fi_laws_markPackS.code) none) (retK G_laws_markPackS fi_laws_markPackS))
theorem laws_markPackS_l0_eq (k m : Nat) : ∀ (n : Nat) (c3 : Cell) (i4 : Int) (i5 : Int) (H6 : List Entry), loopK (some [0, 1, 5]) (laws_markPackS_l0_B k m) (laws_markPackS_l0_K k m) n ⟨fT 42 0 [(0, .av (.one (c3))), (1, .av (.one (Cell.int i4))), (5, .av (.one (Cell.int i5)))], fX 42 0 [], H6⟩ = laws_markPackS_l0 (k + 1) m n c3 i4 i5 H6 := by
  intro n
  induction n with
  | zero => intros; rfl
  | succ n ih =>
    intros
    simp only [laws_markPackS_l0, ← ih]
    kernel_rfl
theorem laws_markPackS_code (k m : Nat) (c1 : Cell) (i2 : Int) (H : List Entry) : evC G_laws_markPackS fi_laws_markPackS (evF G_laws_markPackS (k + 1)) m fi_laws_markPackS.code none (retK G_laws_markPackS fi_laws_markPackS) (enter fi_laws_markPackS [.one (c1), .one (Cell.int i2)] H) = laws_markPackS (k + 1) m c1 i2 H := by
  simp only [laws_markPackS, ← laws_markPackS_l0_eq k m]
  kernel_rfl
theorem laws_markPackS_eq (k : Nat) (c1 : Cell) (i2 : Int) (H : List Entry) : evF G_laws_markPackS (k + 2) fid_laws_markPackS [.one (c1), .one (Cell.int i2)] H = laws_markPackS (k + 1) (k + 1) c1 i2 H :=
  Eq.trans (by kernel_rfl) (laws_markPackS_code k (k + 1) c1 i2 H)
theorem run_laws_markPackS_of {c1 : Cell} {i2 : Int} {H : List Entry} {r : Res} (k : Nat) (h : laws_markPackS (k + 1) (k + 1) c1 i2 H = some r) : run_laws_markPackS [.one (c1), .one (Cell.int i2)] H = some r := lim_of ((laws_markPackS_eq k c1 i2 H).trans h)
noncomputable def pl_laws_FnExactRing : List (Nat × Run) := [(fid_impl_Ring, run_impl_Ring), (fid_laws_eqStringS, run_laws_eqStringS), (fid_laws_markStringS, run_laws_markStringS), (fid_laws_heldStringS, run_laws_heldStringS), (fid_laws_szPackS, run_laws_szPackS), (fid_spec_Ring, run_spec_Ring), (fid_laws_toPackS, run_laws_toPackS), (fid_laws_eqPackS, run_laws_eqPackS), (fid_laws_markPackS, run_laws_markPackS)]
noncomputable def G_laws_FnExactRing : Ctx := ctx tyTab fiTab pl_laws_FnExactRing
noncomputable def run_laws_FnExactRing : Run := lim G_laws_FnExactRing fid_laws_FnExactRing
theorem ok_laws_FnExactRing : FnOk Try.prog OkT fid_laws_FnExactRing run_laws_FnExactRing := lim_ok (l := pl_laws_FnExactRing) Try_mix tyTab_ok fiTab_ok okT (.cons ok_impl_Ring (.cons ok_laws_eqStringS (.cons ok_laws_markStringS (.cons ok_laws_heldStringS (.cons ok_laws_szPackS (.cons ok_spec_Ring (.cons ok_laws_toPackS (.cons ok_laws_eqPackS (.cons ok_laws_markPackS .nil))))))))) fid_laws_FnExactRing
noncomputable def laws_FnExactRing (k m : Nat) (c1 : Cell) : Option Res :=
  (callS run_laws_szPackS [.one (c1), .one (Cell.int 1048576)] []).bind fun r2 =>
  cond (shapeOk rk_laws_szPackS r2)
  ((cI .i64 (cellsAt r2 0) 0).bind fun i3 =>
  cond (decide (i3 < 0))
  (some ([.one (Cell.bool true)], []))
  ((callF run_laws_toPackS [.one (c1)] []).bind fun r4 =>
  cond (shapeOk rk_laws_toPackS r4.1)
  ((cC (cellsAt r4.1 0) 0).bind fun c5 =>
  (callL run_spec_Ring [.one (c5)] r4.2).bind fun r6 =>
  cond (shapeOk rk_spec_Ring r6.1)
  ((cC (cellsAt r6.1 0) 0).bind fun c7 =>
  (callF run_laws_toPackS [.one (c1)] r6.2).bind fun r8 =>
  cond (shapeOk rk_laws_toPackS r8.1)
  ((cC (cellsAt r8.1 0) 0).bind fun c9 =>
  (callF run_impl_Ring [.one (c9)] r8.2).bind fun r10 =>
  cond (shapeOk rk_impl_Ring r10.1)
  ((cC (cellsAt r10.1 0) 0).bind fun c11 =>
  (callS run_laws_eqStringS [.one (c11), .one (c7)] r10.2).bind fun r12 =>
  cond (shapeOk rk_laws_eqStringS r12)
  ((cB (cellsAt r12 0) 0).bind fun b13 =>
  cond (!b13)
  (some ([.one (Cell.bool false)], r10.2))
  ((callF run_laws_toPackS [.one (c1)] r10.2).bind fun r14 =>
  cond (shapeOk rk_laws_toPackS r14.1)
  ((cC (cellsAt r14.1 0) 0).bind fun c15 =>
  (callS run_laws_eqPackS [.one (c9), .one (c15)] r14.2).bind fun r16 =>
  cond (shapeOk rk_laws_eqPackS r16)
  ((cB (cellsAt r16 0) 0).bind fun b17 =>
  cond (!b17)
  (some ([.one (Cell.bool false)], r14.2))
  ((run_laws_markPackS [.one (c9), .one (Cell.int 1)] r14.2).bind fun r18 =>
  cond (shapeOk rk_laws_markPackS r18.1)
  ((cI .i64 (cellsAt r18.1 0) 0).bind fun i19 =>
  cond (decide (i19 < 0))
  (some ([.one (Cell.bool false)], r18.2))
  ((callS run_laws_eqStringS [.one (c11), .one (c7)] r18.2).bind fun r20 =>
  cond (shapeOk rk_laws_eqStringS r20)
  ((cB (cellsAt r20 0) 0).bind fun b21 =>
  cond (!b21)
  (some ([.one (Cell.bool false)], r18.2))
  ((run_laws_markStringS [.one (c11), .one (Cell.int 1)] r18.2).bind fun r22 =>
  cond (shapeOk rk_laws_markStringS r22.1)
  ((cI .i64 (cellsAt r22.1 0) 0).bind fun i23 =>
  (callS run_laws_heldStringS [.one (c11), .one (Cell.int 1)] r22.2).bind fun r24 =>
  cond (shapeOk rk_laws_heldStringS r24)
  ((cI .i64 (cellsAt r24 0) 0).bind fun i25 =>
  cond (decide (i25 < 0))
  (some ([.one (Cell.bool false)], r22.2))
  (cond (i25 != i23)
  (some ([.one (Cell.bool false)], r22.2))
  ((callF run_laws_toPackS [.one (c1)] r22.2).bind fun r26 =>
  cond (shapeOk rk_laws_toPackS r26.1)
  ((cC (cellsAt r26.1 0) 0).bind fun c27 =>
  (callF run_impl_Ring [.one (c27)] r26.2).bind fun r28 =>
  cond (shapeOk rk_impl_Ring r28.1)
  ((cC (cellsAt r28.1 0) 0).bind fun c29 =>
  (callS run_laws_eqStringS [.one (c29), .one (c7)] r28.2).bind fun r30 =>
  cond (shapeOk rk_laws_eqStringS r30)
  ((cB (cellsAt r30 0) 0).bind fun b31 =>
  cond (!b31)
  (some ([.one (Cell.bool false)], r28.2))
  ((callS run_laws_heldStringS [.one (c11), .one (Cell.int 1)] r28.2).bind fun r32 =>
  cond (shapeOk rk_laws_heldStringS r32)
  ((cI .i64 (cellsAt r32 0) 0).bind fun i33 =>
  cond (decide (i33 < 0))
  (some ([.one (Cell.bool false)], r28.2))
  (cond (i33 != i23)
  (some ([.one (Cell.bool false)], r28.2))
  (some ([.one (Cell.bool true)], r28.2))))
  none))
  none)
  none)
  none)))
  none)
  none))
  none))
  none))
  none)
  none))
  none)
  none)
  none)
  none)
  none))
  none
theorem laws_FnExactRing_code (k m : Nat) (c1 : Cell) : evC G_laws_FnExactRing fi_laws_FnExactRing (evF G_laws_FnExactRing (k + 1)) m fi_laws_FnExactRing.code none (retK G_laws_FnExactRing fi_laws_FnExactRing) (enter fi_laws_FnExactRing [.one (c1)] []) = laws_FnExactRing (k + 1) m c1 := by
  kernel_rfl
theorem laws_FnExactRing_eq (k : Nat) (c1 : Cell) : evF G_laws_FnExactRing (k + 2) fid_laws_FnExactRing [.one (c1)] [] = laws_FnExactRing (k + 1) (k + 1) c1 :=
  Eq.trans (by kernel_rfl) (laws_FnExactRing_code k (k + 1) c1)
theorem run_laws_FnExactRing_of {c1 : Cell} {r : Res} (k : Nat) (h : laws_FnExactRing (k + 1) (k + 1) c1 = some r) : run_laws_FnExactRing [.one (c1)] [] = some r := lim_of ((laws_FnExactRing_eq k c1).trans h)
end Go.Ev
