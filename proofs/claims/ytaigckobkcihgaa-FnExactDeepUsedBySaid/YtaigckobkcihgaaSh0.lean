/- What the evaluator says of the functions, each as a Lean function over cells. Printed by a program of this claim. Conditions: none. -/
import Derived.Test.YtaigckobkcihgaaEvPr
import Derived.KernelRfl
namespace Go.Ev
open Go Go.Proofs
set_option maxRecDepth 100000
set_option linter.unusedVariables false
set_option linter.unusedSimpArgs false
noncomputable def pl_laws_szStringS : List (Nat × Run) := []
noncomputable def G_laws_szStringS : Ctx := ctx tyTab fiTab pl_laws_szStringS
noncomputable def run_laws_szStringS : Run := lim G_laws_szStringS fid_laws_szStringS
theorem ok_laws_szStringS : FnOk Try.prog OkT fid_laws_szStringS run_laws_szStringS := lim_ok (l := pl_laws_szStringS) Try_mix tyTab_ok fiTab_ok okT .nil fid_laws_szStringS
noncomputable def laws_szStringS_l0 (k m : Nat) : Nat → Cell → Int → Int → Option Res
  | 0, _, _, _ => none
  | n + 1, c4, i5, i6 =>
    (lenC c4).bind fun n7 =>
    cond (decide (i6 < (n7 : Int)))
    ((idxA 1 (c4) i6).bind fun c8 =>
    (deref [] (c8)).bind fun p9 =>
    (cS p9.1 p9.2).bind fun s10 =>
    cond (decide ((IntKind.i64.wrap (i5 - (s10.size : Int))) < 0))
    (some ([.one (Cell.int (-1))], []))
    (laws_szStringS_l0 k m n (c4) (IntKind.i64.wrap (i5 - (s10.size : Int))) (IntKind.i64.wrap (i6 + 1))))
    (some ([.one (Cell.int i5)], []))
noncomputable def laws_szStringS (k m : Nat) (c1 : Cell) (i2 : Int) : Option Res :=
  (lenC c1).bind fun n3 =>
  cond (decide ((IntKind.i64.wrap (i2 - (n3 : Int))) < 0))
  (some ([.one (Cell.int (-1))], []))
  (laws_szStringS_l0 k m m (c1) (IntKind.i64.wrap (i2 - (n3 : Int))) 0)
noncomputable abbrev laws_szStringS_l0_B (k m : Nat) : (Ex → Fr → Option Res) → Fr → Option Res := evC G_laws_szStringS fi_laws_szStringS (evF G_laws_szStringS (k + 1)) m (sub [1, 1, 1, 0, 1, 2, 3] fi_laws_szStringS.code) none
noncomputable abbrev laws_szStringS_l0_K (k m : Nat) : Ex → Fr → Option Res := blockK 0 (seqK (evC G_laws_szStringS fi_laws_szStringS (evF G_laws_szStringS (k + 1)) m (sub [1, 1, 1, 1] fi_laws_szStringS.code) none) (retK G_laws_szStringS fi_laws_szStringS))
theorem laws_szStringS_l0_eq (k m : Nat) : ∀ (n : Nat) (c4 : Cell) (i5 : Int) (i6 : Int), loopK (some [0, 1, 5]) (laws_szStringS_l0_B k m) (laws_szStringS_l0_K k m) n ⟨fT 28 0 [(0, .av (.one (c4))), (1, .av (.one (Cell.int i5))), (5, .av (.one (Cell.int i6)))], fX 28 0 [], []⟩ = laws_szStringS_l0 (k + 1) m n c4 i5 i6 := by
  intro n
  induction n with
  | zero => intros; rfl
  | succ n ih =>
    intros
    simp only [laws_szStringS_l0, ← ih]
    kernel_rfl
theorem laws_szStringS_code (k m : Nat) (c1 : Cell) (i2 : Int) : evC G_laws_szStringS fi_laws_szStringS (evF G_laws_szStringS (k + 1)) m fi_laws_szStringS.code none (retK G_laws_szStringS fi_laws_szStringS) (enter fi_laws_szStringS [.one (c1), .one (Cell.int i2)] []) = laws_szStringS (k + 1) m c1 i2 := by
  simp only [laws_szStringS, ← laws_szStringS_l0_eq k m]
  kernel_rfl
theorem laws_szStringS_eq (k : Nat) (c1 : Cell) (i2 : Int) : evF G_laws_szStringS (k + 2) fid_laws_szStringS [.one (c1), .one (Cell.int i2)] [] = laws_szStringS (k + 1) (k + 1) c1 i2 :=
  Eq.trans (by kernel_rfl) (laws_szStringS_code k (k + 1) c1 i2)
theorem run_laws_szStringS_of {c1 : Cell} {i2 : Int} {r : Res} (k : Nat) (h : laws_szStringS (k + 1) (k + 1) c1 i2 = some r) : run_laws_szStringS [.one (c1), .one (Cell.int i2)] [] = some r := lim_of ((laws_szStringS_eq k c1 i2).trans h)
noncomputable def pl_laws_szNeed : List (Nat × Run) := []
noncomputable def G_laws_szNeed : Ctx := ctx tyTab fiTab pl_laws_szNeed
noncomputable def run_laws_szNeed : Run := lim G_laws_szNeed fid_laws_szNeed
theorem ok_laws_szNeed : FnOk Try.prog OkT fid_laws_szNeed run_laws_szNeed := lim_ok (l := pl_laws_szNeed) Try_mix tyTab_ok fiTab_ok okT .nil fid_laws_szNeed
noncomputable def laws_szNeed (k m : Nat) (s1 : ByteArray) (s2 : ByteArray) (i3 : Int) : Option Res :=
  cond (decide ((IntKind.i64.wrap (i3 - (s1.size : Int))) < 0))
  (some ([.one (Cell.int (-1))], []))
  (cond (decide ((IntKind.i64.wrap ((IntKind.i64.wrap (i3 - (s1.size : Int))) - (s2.size : Int))) < 0))
  (some ([.one (Cell.int (-1))], []))
  (some ([.one (Cell.int (IntKind.i64.wrap ((IntKind.i64.wrap (i3 - (s1.size : Int))) - (s2.size : Int))))], [])))
theorem laws_szNeed_code (k m : Nat) (s1 : ByteArray) (s2 : ByteArray) (i3 : Int) : evC G_laws_szNeed fi_laws_szNeed (evF G_laws_szNeed (k + 1)) m fi_laws_szNeed.code none (retK G_laws_szNeed fi_laws_szNeed) (enter fi_laws_szNeed [.agg [Cell.str s1, Cell.str s2], .one (Cell.int i3)] []) = laws_szNeed (k + 1) m s1 s2 i3 := by
  kernel_rfl
theorem laws_szNeed_eq (k : Nat) (s1 : ByteArray) (s2 : ByteArray) (i3 : Int) : evF G_laws_szNeed (k + 2) fid_laws_szNeed [.agg [Cell.str s1, Cell.str s2], .one (Cell.int i3)] [] = laws_szNeed (k + 1) (k + 1) s1 s2 i3 :=
  Eq.trans (by kernel_rfl) (laws_szNeed_code k (k + 1) s1 s2 i3)
theorem run_laws_szNeed_of {s1 : ByteArray} {s2 : ByteArray} {i3 : Int} {r : Res} (k : Nat) (h : laws_szNeed (k + 1) (k + 1) s1 s2 i3 = some r) : run_laws_szNeed [.agg [Cell.str s1, Cell.str s2], .one (Cell.int i3)] [] = some r := lim_of ((laws_szNeed_eq k s1 s2 i3).trans h)
noncomputable def pl_laws_szNeedS : List (Nat × Run) := [(fid_laws_szNeed, run_laws_szNeed)]
noncomputable def G_laws_szNeedS : Ctx := ctx tyTab fiTab pl_laws_szNeedS
noncomputable def run_laws_szNeedS : Run := lim G_laws_szNeedS fid_laws_szNeedS
theorem ok_laws_szNeedS : FnOk Try.prog OkT fid_laws_szNeedS run_laws_szNeedS := lim_ok (l := pl_laws_szNeedS) Try_mix tyTab_ok fiTab_ok okT (.cons ok_laws_szNeed .nil) fid_laws_szNeedS
noncomputable def laws_szNeedS_l0 (k m : Nat) : Nat → Cell → Int → Int → Option Res
  | 0, _, _, _ => none
  | n + 1, c4, i5, i6 =>
    (lenC c4).bind fun n7 =>
    cond (decide (i6 < (n7 : Int)))
    ((idxA 2 (c4) i6).bind fun c8 =>
    (deref [] (c8)).bind fun p9 =>
    (cS p9.1 p9.2).bind fun s10 =>
    (cS p9.1 (p9.2 + 1)).bind fun s11 =>
    (callS run_laws_szNeed [.agg [Cell.str s10, Cell.str s11], .one (Cell.int i5)] []).bind fun r12 =>
    cond (shapeOk rk_laws_szNeed r12)
    ((cI .i64 (cellsAt r12 0) 0).bind fun i13 =>
    cond (decide (i13 < 0))
    (some ([.one (Cell.int (-1))], []))
    (laws_szNeedS_l0 k m n (c4) i13 (IntKind.i64.wrap (i6 + 1))))
    none)
    (some ([.one (Cell.int i5)], []))
noncomputable def laws_szNeedS (k m : Nat) (c1 : Cell) (i2 : Int) : Option Res :=
  (lenC c1).bind fun n3 =>
  cond (decide ((IntKind.i64.wrap (i2 - (n3 : Int))) < 0))
  (some ([.one (Cell.int (-1))], []))
  (laws_szNeedS_l0 k m m (c1) (IntKind.i64.wrap (i2 - (n3 : Int))) 0)
noncomputable abbrev laws_szNeedS_l0_B (k m : Nat) : (Ex → Fr → Option Res) → Fr → Option Res := evC G_laws_szNeedS fi_laws_szNeedS (evF G_laws_szNeedS (k + 1)) m (sub [1, 1, 1, 0, 1, 2, 3] fi_laws_szNeedS.code) none
noncomputable abbrev laws_szNeedS_l0_K (k m : Nat) : Ex → Fr → Option Res := blockK 0 (seqK (evC G_laws_szNeedS fi_laws_szNeedS (evF G_laws_szNeedS (k + 1)) m (sub [1, 1, 1, 1] fi_laws_szNeedS.code) none) (retK G_laws_szNeedS fi_laws_szNeedS))
theorem laws_szNeedS_l0_eq (k m : Nat) : ∀ (n : Nat) (c4 : Cell) (i5 : Int) (i6 : Int), loopK (some [0, 1, 5]) (laws_szNeedS_l0_B k m) (laws_szNeedS_l0_K k m) n ⟨fT 27 0 [(0, .av (.one (c4))), (1, .av (.one (Cell.int i5))), (5, .av (.one (Cell.int i6)))], fX 27 0 [], []⟩ = laws_szNeedS_l0 (k + 1) m n c4 i5 i6 := by
  intro n
  induction n with
  | zero => intros; rfl
  | succ n ih =>
    intros
    simp only [laws_szNeedS_l0, ← ih]
    kernel_rfl
theorem laws_szNeedS_code (k m : Nat) (c1 : Cell) (i2 : Int) : evC G_laws_szNeedS fi_laws_szNeedS (evF G_laws_szNeedS (k + 1)) m fi_laws_szNeedS.code none (retK G_laws_szNeedS fi_laws_szNeedS) (enter fi_laws_szNeedS [.one (c1), .one (Cell.int i2)] []) = laws_szNeedS (k + 1) m c1 i2 := by
  simp only [laws_szNeedS, ← laws_szNeedS_l0_eq k m]
  kernel_rfl
theorem laws_szNeedS_eq (k : Nat) (c1 : Cell) (i2 : Int) : evF G_laws_szNeedS (k + 2) fid_laws_szNeedS [.one (c1), .one (Cell.int i2)] [] = laws_szNeedS (k + 1) (k + 1) c1 i2 :=
  Eq.trans (by kernel_rfl) (laws_szNeedS_code k (k + 1) c1 i2)
theorem run_laws_szNeedS_of {c1 : Cell} {i2 : Int} {r : Res} (k : Nat) (h : laws_szNeedS (k + 1) (k + 1) c1 i2 = some r) : run_laws_szNeedS [.one (c1), .one (Cell.int i2)] [] = some r := lim_of ((laws_szNeedS_eq k c1 i2).trans h)
noncomputable def pl_laws_szCmd : List (Nat × Run) := [(fid_laws_szStringS, run_laws_szStringS)]
noncomputable def G_laws_szCmd : Ctx := ctx tyTab fiTab pl_laws_szCmd
noncomputable def run_laws_szCmd : Run := lim G_laws_szCmd fid_laws_szCmd
theorem ok_laws_szCmd : FnOk Try.prog OkT fid_laws_szCmd run_laws_szCmd := lim_ok (l := pl_laws_szCmd) Try_mix tyTab_ok fiTab_ok okT (.cons ok_laws_szStringS .nil) fid_laws_szCmd
noncomputable def laws_szCmd (k m : Nat) (s1 : ByteArray) (c2 : Cell) (i3 : Int) : Option Res :=
  cond (decide ((IntKind.i64.wrap (i3 - (s1.size : Int))) < 0))
  (some ([.one (Cell.int (-1))], []))
  ((callS run_laws_szStringS [.one (c2), .one (Cell.int (IntKind.i64.wrap (i3 - (s1.size : Int))))] []).bind fun r4 =>
  cond (shapeOk rk_laws_szStringS r4)
  ((cI .i64 (cellsAt r4 0) 0).bind fun i5 =>
  cond (decide (i5 < 0))
  (some ([.one (Cell.int (-1))], []))
  (some ([.one (Cell.int i5)], [])))
  none)
theorem laws_szCmd_code (k m : Nat) (s1 : ByteArray) (c2 : Cell) (i3 : Int) : evC G_laws_szCmd fi_laws_szCmd (evF G_laws_szCmd (k + 1)) m fi_laws_szCmd.code none (retK G_laws_szCmd fi_laws_szCmd) (enter fi_laws_szCmd [.agg [Cell.str s1, c2], .one (Cell.int i3)] []) = laws_szCmd (k + 1) m s1 c2 i3 := by
  kernel_rfl
theorem laws_szCmd_eq (k : Nat) (s1 : ByteArray) (c2 : Cell) (i3 : Int) : evF G_laws_szCmd (k + 2) fid_laws_szCmd [.agg [Cell.str s1, c2], .one (Cell.int i3)] [] = laws_szCmd (k + 1) (k + 1) s1 c2 i3 :=
  Eq.trans (by kernel_rfl) (laws_szCmd_code k (k + 1) s1 c2 i3)
theorem run_laws_szCmd_of {s1 : ByteArray} {c2 : Cell} {i3 : Int} {r : Res} (k : Nat) (h : laws_szCmd (k + 1) (k + 1) s1 c2 i3 = some r) : run_laws_szCmd [.agg [Cell.str s1, c2], .one (Cell.int i3)] [] = some r := lim_of ((laws_szCmd_eq k s1 c2 i3).trans h)
noncomputable def pl_laws_szCmdS : List (Nat × Run) := [(fid_laws_szCmd, run_laws_szCmd)]
noncomputable def G_laws_szCmdS : Ctx := ctx tyTab fiTab pl_laws_szCmdS
noncomputable def run_laws_szCmdS : Run := lim G_laws_szCmdS fid_laws_szCmdS
theorem ok_laws_szCmdS : FnOk Try.prog OkT fid_laws_szCmdS run_laws_szCmdS := lim_ok (l := pl_laws_szCmdS) Try_mix tyTab_ok fiTab_ok okT (.cons ok_laws_szCmd .nil) fid_laws_szCmdS
noncomputable def laws_szCmdS_l0 (k m : Nat) : Nat → Cell → Int → Int → Option Res
  | 0, _, _, _ => none
  | n + 1, c4, i5, i6 =>
    (lenC c4).bind fun n7 =>
    cond (decide (i6 < (n7 : Int)))
    ((idxA 2 (c4) i6).bind fun c8 =>
    (deref [] (c8)).bind fun p9 =>
    (cS p9.1 p9.2).bind fun s10 =>
    (cC p9.1 (p9.2 + 1)).bind fun c11 =>
    (callS run_laws_szCmd [.agg [Cell.str s10, c11], .one (Cell.int i5)] []).bind fun r12 =>
    cond (shapeOk rk_laws_szCmd r12)
    ((cI .i64 (cellsAt r12 0) 0).bind fun i13 =>
    cond (decide (i13 < 0))
    (some ([.one (Cell.int (-1))], []))
    (laws_szCmdS_l0 k m n (c4) i13 (IntKind.i64.wrap (i6 + 1))))
    none)
    (some ([.one (Cell.int i5)], []))
noncomputable def laws_szCmdS (k m : Nat) (c1 : Cell) (i2 : Int) : Option Res :=
  (lenC c1).bind fun n3 =>
  cond (decide ((IntKind.i64.wrap (i2 - (n3 : Int))) < 0))
  (some ([.one (Cell.int (-1))], []))
  (laws_szCmdS_l0 k m m (c1) (IntKind.i64.wrap (i2 - (n3 : Int))) 0)
noncomputable abbrev laws_szCmdS_l0_B (k m : Nat) : (Ex → Fr → Option Res) → Fr → Option Res := evC G_laws_szCmdS fi_laws_szCmdS (evF G_laws_szCmdS (k + 1)) m (sub [1, 1, 1, 0, 1, 2, 3] fi_laws_szCmdS.code) none
noncomputable abbrev laws_szCmdS_l0_K (k m : Nat) : Ex → Fr → Option Res := blockK 0 (seqK (evC G_laws_szCmdS fi_laws_szCmdS (evF G_laws_szCmdS (k + 1)) m (sub [1, 1, 1, 1] fi_laws_szCmdS.code) none) (retK G_laws_szCmdS fi_laws_szCmdS))
theorem laws_szCmdS_l0_eq (k m : Nat) : ∀ (n : Nat) (c4 : Cell) (i5 : Int) (i6 : Int), loopK (some [0, 1, 5]) (laws_szCmdS_l0_B k m) (laws_szCmdS_l0_K k m) n ⟨fT 27 0 [(0, .av (.one (c4))), (1, .av (.one (Cell.int i5))), (5, .av (.one (Cell.int i6)))], fX 27 0 [], []⟩ = laws_szCmdS_l0 (k + 1) m n c4 i5 i6 := by
  intro n
  induction n with
  | zero => intros; rfl
  | succ n ih =>
    intros
    simp only [laws_szCmdS_l0, ← ih]
    kernel_rfl
theorem laws_szCmdS_code (k m : Nat) (c1 : Cell) (i2 : Int) : evC G_laws_szCmdS fi_laws_szCmdS (evF G_laws_szCmdS (k + 1)) m fi_laws_szCmdS.code none (retK G_laws_szCmdS fi_laws_szCmdS) (enter fi_laws_szCmdS [.one (c1), .one (Cell.int i2)] []) = laws_szCmdS (k + 1) m c1 i2 := by
  simp only [laws_szCmdS, ← laws_szCmdS_l0_eq k m]
  kernel_rfl
theorem laws_szCmdS_eq (k : Nat) (c1 : Cell) (i2 : Int) : evF G_laws_szCmdS (k + 2) fid_laws_szCmdS [.one (c1), .one (Cell.int i2)] [] = laws_szCmdS (k + 1) (k + 1) c1 i2 :=
  Eq.trans (by kernel_rfl) (laws_szCmdS_code k (k + 1) c1 i2)
theorem run_laws_szCmdS_of {c1 : Cell} {i2 : Int} {r : Res} (k : Nat) (h : laws_szCmdS (k + 1) (k + 1) c1 i2 = some r) : run_laws_szCmdS [.one (c1), .one (Cell.int i2)] [] = some r := lim_of ((laws_szCmdS_eq k c1 i2).trans h)
noncomputable def pl_laws_szPack : List (Nat × Run) := [(fid_laws_szStringS, run_laws_szStringS), (fid_laws_szNeedS, run_laws_szNeedS), (fid_laws_szCmdS, run_laws_szCmdS)]
noncomputable def G_laws_szPack : Ctx := ctx tyTab fiTab pl_laws_szPack
noncomputable def run_laws_szPack : Run := lim G_laws_szPack fid_laws_szPack
theorem ok_laws_szPack : FnOk Try.prog OkT fid_laws_szPack run_laws_szPack := lim_ok (l := pl_laws_szPack) Try_mix tyTab_ok fiTab_ok okT (.cons ok_laws_szStringS (.cons ok_laws_szNeedS (.cons ok_laws_szCmdS .nil))) fid_laws_szPack
noncomputable def laws_szPack (k m : Nat) (s1 : ByteArray) (c2 : Cell) (c3 : Cell) (c4 : Cell) (i5 : Int) : Option Res :=
  cond (decide ((IntKind.i64.wrap (i5 - (s1.size : Int))) < 0))
  (some ([.one (Cell.int (-1))], []))
  ((callS run_laws_szStringS [.one (c2), .one (Cell.int (IntKind.i64.wrap (i5 - (s1.size : Int))))] []).bind fun r6 =>
  cond (shapeOk rk_laws_szStringS r6)
  ((cI .i64 (cellsAt r6 0) 0).bind fun i7 =>
  cond (decide (i7 < 0))
  (some ([.one (Cell.int (-1))], []))
  ((callS run_laws_szNeedS [.one (c3), .one (Cell.int i7)] []).bind fun r8 =>
  cond (shapeOk rk_laws_szNeedS r8)
  ((cI .i64 (cellsAt r8 0) 0).bind fun i9 =>
  cond (decide (i9 < 0))
  (some ([.one (Cell.int (-1))], []))
  ((callS run_laws_szCmdS [.one (c4), .one (Cell.int i9)] []).bind fun r10 =>
  cond (shapeOk rk_laws_szCmdS r10)
  ((cI .i64 (cellsAt r10 0) 0).bind fun i11 =>
  cond (decide (i11 < 0))
  (some ([.one (Cell.int (-1))], []))
  (some ([.one (Cell.int i11)], [])))
  none))
  none))
  none)
theorem laws_szPack_code (k m : Nat) (s1 : ByteArray) (c2 : Cell) (c3 : Cell) (c4 : Cell) (i5 : Int) : evC G_laws_szPack fi_laws_szPack (evF G_laws_szPack (k + 1)) m fi_laws_szPack.code none (retK G_laws_szPack fi_laws_szPack) (enter fi_laws_szPack [.agg [Cell.str s1, c2, c3, c4], .one (Cell.int i5)] []) = laws_szPack (k + 1) m s1 c2 c3 c4 i5 := by
  kernel_rfl
theorem laws_szPack_eq (k : Nat) (s1 : ByteArray) (c2 : Cell) (c3 : Cell) (c4 : Cell) (i5 : Int) : evF G_laws_szPack (k + 2) fid_laws_szPack [.agg [Cell.str s1, c2, c3, c4], .one (Cell.int i5)] [] = laws_szPack (k + 1) (k + 1) s1 c2 c3 c4 i5 :=
  Eq.trans (by kernel_rfl) (laws_szPack_code k (k + 1) s1 c2 c3 c4 i5)
theorem run_laws_szPack_of {s1 : ByteArray} {c2 : Cell} {c3 : Cell} {c4 : Cell} {i5 : Int} {r : Res} (k : Nat) (h : laws_szPack (k + 1) (k + 1) s1 c2 c3 c4 i5 = some r) : run_laws_szPack [.agg [Cell.str s1, c2, c3, c4], .one (Cell.int i5)] [] = some r := lim_of ((laws_szPack_eq k s1 c2 c3 c4 i5).trans h)
noncomputable def pl_laws_szPackS : List (Nat × Run) := [(fid_laws_szPack, run_laws_szPack)]
noncomputable def G_laws_szPackS : Ctx := ctx tyTab fiTab pl_laws_szPackS
noncomputable def run_laws_szPackS : Run := lim G_laws_szPackS fid_laws_szPackS
theorem ok_laws_szPackS : FnOk Try.prog OkT fid_laws_szPackS run_laws_szPackS := lim_ok (l := pl_laws_szPackS) Try_mix tyTab_ok fiTab_ok okT (.cons ok_laws_szPack .nil) fid_laws_szPackS
noncomputable def laws_szPackS_l0 (k m : Nat) : Nat → Cell → Int → Int → Option Res
  | 0, _, _, _ => none
  | n + 1, c4, i5, i6 =>
    (lenC c4).bind fun n7 =>
    cond (decide (i6 < (n7 : Int)))
    ((idxA 4 (c4) i6).bind fun c8 =>
    (deref [] (c8)).bind fun p9 =>
    (cS p9.1 p9.2).bind fun s10 =>
    (cC p9.1 (p9.2 + 1)).bind fun c11 =>
    (cC p9.1 ((p9.2 + 1) + 1)).bind fun c12 =>
    (cC p9.1 (((p9.2 + 1) + 1) + 1)).bind fun c13 =>
    (callS run_laws_szPack [.agg [Cell.str s10, c11, c12, c13], .one (Cell.int i5)] []).bind fun r14 =>
    cond (shapeOk rk_laws_szPack r14)
    ((cI .i64 (cellsAt r14 0) 0).bind fun i15 =>
    cond (decide (i15 < 0))
    (some ([.one (Cell.int (-1))], []))
    (laws_szPackS_l0 k m n (c4) i15 (IntKind.i64.wrap (i6 + 1))))
    none)
    (some ([.one (Cell.int i5)], []))
noncomputable def laws_szPackS (k m : Nat) (c1 : Cell) (i2 : Int) : Option Res :=
  (lenC c1).bind fun n3 =>
  cond (decide ((IntKind.i64.wrap (i2 - (n3 : Int))) < 0))
  (some ([.one (Cell.int (-1))], []))
  (laws_szPackS_l0 k m m (c1) (IntKind.i64.wrap (i2 - (n3 : Int))) 0)
noncomputable abbrev laws_szPackS_l0_B (k m : Nat) : (Ex → Fr → Option Res) → Fr → Option Res := evC G_laws_szPackS fi_laws_szPackS (evF G_laws_szPackS (k + 1)) m (sub [1, 1, 1, 0, 1, 2, 3] fi_laws_szPackS.code) none
noncomputable abbrev laws_szPackS_l0_K (k m : Nat) : Ex → Fr → Option Res := blockK 0 (seqK (evC G_laws_szPackS fi_laws_szPackS (evF G_laws_szPackS (k + 1)) m (sub [1, 1, 1, 1] fi_laws_szPackS.code) none) (retK G_laws_szPackS fi_laws_szPackS))
theorem laws_szPackS_l0_eq (k m : Nat) : ∀ (n : Nat) (c4 : Cell) (i5 : Int) (i6 : Int), loopK (some [0, 1, 5]) (laws_szPackS_l0_B k m) (laws_szPackS_l0_K k m) n ⟨fT 27 0 [(0, .av (.one (c4))), (1, .av (.one (Cell.int i5))), (5, .av (.one (Cell.int i6)))], fX 27 0 [], []⟩ = laws_szPackS_l0 (k + 1) m n c4 i5 i6 := by
  intro n
  induction n with
  | zero => intros; rfl
  | succ n ih =>
    intros
    simp only [laws_szPackS_l0, ← ih]
    kernel_rfl
theorem laws_szPackS_code (k m : Nat) (c1 : Cell) (i2 : Int) : evC G_laws_szPackS fi_laws_szPackS (evF G_laws_szPackS (k + 1)) m fi_laws_szPackS.code none (retK G_laws_szPackS fi_laws_szPackS) (enter fi_laws_szPackS [.one (c1), .one (Cell.int i2)] []) = laws_szPackS (k + 1) m c1 i2 := by
  simp only [laws_szPackS, ← laws_szPackS_l0_eq k m]
  kernel_rfl
theorem laws_szPackS_eq (k : Nat) (c1 : Cell) (i2 : Int) : evF G_laws_szPackS (k + 2) fid_laws_szPackS [.one (c1), .one (Cell.int i2)] [] = laws_szPackS (k + 1) (k + 1) c1 i2 :=
  Eq.trans (by kernel_rfl) (laws_szPackS_code k (k + 1) c1 i2)
theorem run_laws_szPackS_of {c1 : Cell} {i2 : Int} {r : Res} (k : Nat) (h : laws_szPackS (k + 1) (k + 1) c1 i2 = some r) : run_laws_szPackS [.one (c1), .one (Cell.int i2)] [] = some r := lim_of ((laws_szPackS_eq k c1 i2).trans h)
noncomputable def pl_laws_toStringS : List (Nat × Run) := []
noncomputable def G_laws_toStringS : Ctx := ctx tyTab fiTab pl_laws_toStringS
noncomputable def run_laws_toStringS : Run := lim G_laws_toStringS fid_laws_toStringS
theorem ok_laws_toStringS : FnOk Try.prog OkT fid_laws_toStringS run_laws_toStringS := lim_ok (l := pl_laws_toStringS) Try_mix tyTab_ok fiTab_ok okT .nil fid_laws_toStringS
noncomputable def laws_toStringS_l0 (k m : Nat) : Nat → Cell → Cell → Int → List Entry → Option Res
  | 0, _, _, _, _ => none
  | n + 1, c3, c4, i5, H6 =>
    (lenC c3).bind fun n7 =>
    cond (decide (i5 < (n7 : Int)))
    ((idxA 1 (c3) i5).bind fun c8 =>
    (deref H6 (c8)).bind fun p9 =>
    (cS p9.1 p9.2).bind fun s10 =>
    (idxA 1 (c4) i5).bind fun c11 =>
    (hStore H6 (c11) [Cell.str s10]).bind fun h12 =>
    laws_toStringS_l0 k m n (c3) (c4) (IntKind.i64.wrap (i5 + 1)) h12)
    (some ([.one (c4)], H6))
noncomputable def laws_toStringS (k m : Nat) (c1 : Cell) : Option Res :=
  (lenC c1).bind fun n2 =>
  if 0 ≤ (n2 : Int) ∧ (n2 : Int) ≤ (n2 : Int) ∧ (n2 : Int) * 16 ≤ bound ∧ (n2 : Int) ≤ bound then
  (laws_toStringS_l0 k m m (c1) ((.vs 0 1 0 (n2 : Int).toNat 0)) 0 [Entry.mk 1 (mkRows (n2 : Int).toNat [Cell.str (bs [])]) 0 false]) else none
noncomputable abbrev laws_toStringS_l0_B (k m : Nat) : (Ex → Fr → Option Res) → Fr → Option Res := evC G_laws_toStringS fi_laws_toStringS (evF G_laws_toStringS (k + 1)) m (sub [1, 1, 0, 1, 2, 3] fi_laws_toStringS.code) none
noncomputable abbrev laws_toStringS_l0_K (k m : Nat) : Ex → Fr → Option Res := blockK 0 (seqK (evC G_laws_toStringS fi_laws_toStringS (evF G_laws_toStringS (k + 1)) m (sub [1, 1, 1] fi_laws_toStringS.code) none) (retK G_laws_toStringS fi_laws_toStringS))
theorem laws_toStringS_l0_eq (k m : Nat) : ∀ (n : Nat) (c3 : Cell) (c4 : Cell) (i5 : Int) (H6 : List Entry), loopK (some [0, 3, 4]) (laws_toStringS_l0_B k m) (laws_toStringS_l0_K k m) n ⟨fT 22 0 [(0, .av (.one (c3))), (3, .av (.one (c4))), (4, .av (.one (Cell.int i5)))], fX 22 0 [], H6⟩ = laws_toStringS_l0 (k + 1) m n c3 c4 i5 H6 := by
  intro n
  induction n with
  | zero => intros; rfl
  | succ n ih =>
    intros
    simp only [laws_toStringS_l0, ← ih]
    kernel_rfl
theorem laws_toStringS_code (k m : Nat) (c1 : Cell) : evC G_laws_toStringS fi_laws_toStringS (evF G_laws_toStringS (k + 1)) m fi_laws_toStringS.code none (retK G_laws_toStringS fi_laws_toStringS) (enter fi_laws_toStringS [.one (c1)] []) = laws_toStringS (k + 1) m c1 := by
  simp only [laws_toStringS, ← laws_toStringS_l0_eq k m]
  kernel_rfl
theorem laws_toStringS_eq (k : Nat) (c1 : Cell) : evF G_laws_toStringS (k + 2) fid_laws_toStringS [.one (c1)] [] = laws_toStringS (k + 1) (k + 1) c1 :=
  Eq.trans (by kernel_rfl) (laws_toStringS_code k (k + 1) c1)
theorem run_laws_toStringS_of {c1 : Cell} {r : Res} (k : Nat) (h : laws_toStringS (k + 1) (k + 1) c1 = some r) : run_laws_toStringS [.one (c1)] [] = some r := lim_of ((laws_toStringS_eq k c1).trans h)
noncomputable def pl_laws_toNeed : List (Nat × Run) := []
noncomputable def G_laws_toNeed : Ctx := ctx tyTab fiTab pl_laws_toNeed
noncomputable def run_laws_toNeed : Run := lim G_laws_toNeed fid_laws_toNeed
theorem ok_laws_toNeed : FnOk Try.prog OkT fid_laws_toNeed run_laws_toNeed := lim_ok (l := pl_laws_toNeed) Try_mix tyTab_ok fiTab_ok okT .nil fid_laws_toNeed
noncomputable def laws_toNeed (k m : Nat) (s1 : ByteArray) (s2 : ByteArray) : Option Res :=
  some ([.agg [Cell.str s1, Cell.str s2]], [])
theorem laws_toNeed_code (k m : Nat) (s1 : ByteArray) (s2 : ByteArray) : evC G_laws_toNeed fi_laws_toNeed (evF G_laws_toNeed (k + 1)) m fi_laws_toNeed.code none (retK G_laws_toNeed fi_laws_toNeed) (enter fi_laws_toNeed [.agg [Cell.str s1, Cell.str s2]] []) = laws_toNeed (k + 1) m s1 s2 := by
  kernel_rfl
theorem laws_toNeed_eq (k : Nat) (s1 : ByteArray) (s2 : ByteArray) : evF G_laws_toNeed (k + 2) fid_laws_toNeed [.agg [Cell.str s1, Cell.str s2]] [] = laws_toNeed (k + 1) (k + 1) s1 s2 :=
  Eq.trans (by kernel_rfl) (laws_toNeed_code k (k + 1) s1 s2)
theorem run_laws_toNeed_of {s1 : ByteArray} {s2 : ByteArray} {r : Res} (k : Nat) (h : laws_toNeed (k + 1) (k + 1) s1 s2 = some r) : run_laws_toNeed [.agg [Cell.str s1, Cell.str s2]] [] = some r := lim_of ((laws_toNeed_eq k s1 s2).trans h)
noncomputable def pl_laws_toNeedS : List (Nat × Run) := [(fid_laws_toNeed, run_laws_toNeed)]
noncomputable def G_laws_toNeedS : Ctx := ctx tyTab fiTab pl_laws_toNeedS
noncomputable def run_laws_toNeedS : Run := lim G_laws_toNeedS fid_laws_toNeedS
theorem ok_laws_toNeedS : FnOk Try.prog OkT fid_laws_toNeedS run_laws_toNeedS := lim_ok (l := pl_laws_toNeedS) Try_mix tyTab_ok fiTab_ok okT (.cons ok_laws_toNeed .nil) fid_laws_toNeedS
noncomputable def laws_toNeedS_l0 (k m : Nat) : Nat → Cell → Cell → Int → List Entry → Option Res
  | 0, _, _, _, _ => none
  | n + 1, c3, c4, i5, H6 =>
    (lenC c3).bind fun n7 =>
    cond (decide (i5 < (n7 : Int)))
    ((idxA 2 (c3) i5).bind fun c8 =>
    (deref H6 (c8)).bind fun p9 =>
    (cS p9.1 p9.2).bind fun s10 =>
    (cS p9.1 (p9.2 + 1)).bind fun s11 =>
    (callF run_laws_toNeed [.agg [Cell.str s10, Cell.str s11]] H6).bind fun r12 =>
    cond (shapeOk rk_laws_toNeed r12.1)
    ((cS (cellsAt r12.1 0) 0).bind fun s13 =>
    (cS (cellsAt r12.1 0) 1).bind fun s14 =>
    (idxA 2 (c4) i5).bind fun c15 =>
    (hStore r12.2 (c15) [Cell.str s13, Cell.str s14]).bind fun h16 =>
    laws_toNeedS_l0 k m n (c3) (c4) (IntKind.i64.wrap (i5 + 1)) h16)
    none)
    (some ([.one (c4)], H6))
noncomputable def laws_toNeedS (k m : Nat) (c1 : Cell) : Option Res :=
  (lenC c1).bind fun n2 =>
  if 0 ≤ (n2 : Int) ∧ (n2 : Int) ≤ (n2 : Int) ∧ (n2 : Int) * 32 ≤ bound ∧ (n2 : Int) ≤ bound then
  (laws_toNeedS_l0 k m m (c1) ((.vs 0 2 0 (n2 : Int).toNat 0)) 0 [Entry.mk 2 (mkRows (n2 : Int).toNat [Cell.str (bs []), Cell.str (bs [])]) 0 false]) else none
noncomputable abbrev laws_toNeedS_l0_B (k m : Nat) : (Ex → Fr → Option Res) → Fr → Option Res := evC G_laws_toNeedS fi_laws_toNeedS (evF G_laws_toNeedS (k + 1)) m (sub [1, 1, 0, 1, 2, 3] fi_laws_toNeedS.code) none
noncomputable abbrev laws_toNeedS_l0_K (k m : Nat) : Ex → Fr → Option Res := blockK 0 (seqK (evC G_laws_toNeedS fi_laws_toNeedS (evF G_laws_toNeedS (k + 1)) m (sub [1, 1, 1] fi_laws_toNeedS.code) none) (retK G_laws_toNeedS fi_laws_toNeedS))
theorem laws_toNeedS_l0_eq (k m : Nat) : ∀ (n : Nat) (c3 : Cell) (c4 : Cell) (i5 : Int) (H6 : List Entry), loopK (some [0, 3, 4]) (laws_toNeedS_l0_B k m) (laws_toNeedS_l0_K k m) n ⟨fT 23 0 [(0, .av (.one (c3))), (3, .av (.one (c4))), (4, .av (.one (Cell.int i5)))], fX 23 0 [], H6⟩ = laws_toNeedS_l0 (k + 1) m n c3 c4 i5 H6 := by
  intro n
  induction n with
  | zero => intros; rfl
  | succ n ih =>
    intros
    simp only [laws_toNeedS_l0, ← ih]
    kernel_rfl
theorem laws_toNeedS_code (k m : Nat) (c1 : Cell) : evC G_laws_toNeedS fi_laws_toNeedS (evF G_laws_toNeedS (k + 1)) m fi_laws_toNeedS.code none (retK G_laws_toNeedS fi_laws_toNeedS) (enter fi_laws_toNeedS [.one (c1)] []) = laws_toNeedS (k + 1) m c1 := by
  simp only [laws_toNeedS, ← laws_toNeedS_l0_eq k m]
  kernel_rfl
theorem laws_toNeedS_eq (k : Nat) (c1 : Cell) : evF G_laws_toNeedS (k + 2) fid_laws_toNeedS [.one (c1)] [] = laws_toNeedS (k + 1) (k + 1) c1 :=
  Eq.trans (by kernel_rfl) (laws_toNeedS_code k (k + 1) c1)
theorem run_laws_toNeedS_of {c1 : Cell} {r : Res} (k : Nat) (h : laws_toNeedS (k + 1) (k + 1) c1 = some r) : run_laws_toNeedS [.one (c1)] [] = some r := lim_of ((laws_toNeedS_eq k c1).trans h)
noncomputable def pl_laws_toCmd : List (Nat × Run) := [(fid_laws_toStringS, run_laws_toStringS)]
noncomputable def G_laws_toCmd : Ctx := ctx tyTab fiTab pl_laws_toCmd
noncomputable def run_laws_toCmd : Run := lim G_laws_toCmd fid_laws_toCmd
theorem ok_laws_toCmd : FnOk Try.prog OkT fid_laws_toCmd run_laws_toCmd := lim_ok (l := pl_laws_toCmd) Try_mix tyTab_ok fiTab_ok okT (.cons ok_laws_toStringS .nil) fid_laws_toCmd
noncomputable def laws_toCmd (k m : Nat) (s1 : ByteArray) (c2 : Cell) : Option Res :=
  (callF run_laws_toStringS [.one (c2)] []).bind fun r3 =>
  cond (shapeOk rk_laws_toStringS r3.1)
  ((cC (cellsAt r3.1 0) 0).bind fun c4 =>
  some ([.agg [Cell.str s1, c4]], r3.2))
  none
theorem laws_toCmd_code (k m : Nat) (s1 : ByteArray) (c2 : Cell) : evC G_laws_toCmd fi_laws_toCmd (evF G_laws_toCmd (k + 1)) m fi_laws_toCmd.code none (retK G_laws_toCmd fi_laws_toCmd) (enter fi_laws_toCmd [.agg [Cell.str s1, c2]] []) = laws_toCmd (k + 1) m s1 c2 := by
  kernel_rfl
theorem laws_toCmd_eq (k : Nat) (s1 : ByteArray) (c2 : Cell) : evF G_laws_toCmd (k + 2) fid_laws_toCmd [.agg [Cell.str s1, c2]] [] = laws_toCmd (k + 1) (k + 1) s1 c2 :=
  Eq.trans (by kernel_rfl) (laws_toCmd_code k (k + 1) s1 c2)
theorem run_laws_toCmd_of {s1 : ByteArray} {c2 : Cell} {r : Res} (k : Nat) (h : laws_toCmd (k + 1) (k + 1) s1 c2 = some r) : run_laws_toCmd [.agg [Cell.str s1, c2]] [] = some r := lim_of ((laws_toCmd_eq k s1 c2).trans h)
noncomputable def pl_laws_toCmdS : List (Nat × Run) := [(fid_laws_toCmd, run_laws_toCmd)]
noncomputable def G_laws_toCmdS : Ctx := ctx tyTab fiTab pl_laws_toCmdS
noncomputable def run_laws_toCmdS : Run := lim G_laws_toCmdS fid_laws_toCmdS
theorem ok_laws_toCmdS : FnOk Try.prog OkT fid_laws_toCmdS run_laws_toCmdS := lim_ok (l := pl_laws_toCmdS) Try_mix tyTab_ok fiTab_ok okT (.cons ok_laws_toCmd .nil) fid_laws_toCmdS
noncomputable def laws_toCmdS_l0 (k m : Nat) : Nat → Cell → Cell → Int → List Entry → Option Res
  | 0, _, _, _, _ => none
  | n + 1, c3, c4, i5, H6 =>
    (lenC c3).bind fun n7 =>
    cond (decide (i5 < (n7 : Int)))
    ((idxA 2 (c3) i5).bind fun c8 =>
    (deref H6 (c8)).bind fun p9 =>
    (cS p9.1 p9.2).bind fun s10 =>
    (cC p9.1 (p9.2 + 1)).bind fun c11 =>
    (callF run_laws_toCmd [.agg [Cell.str s10, c11]] H6).bind fun r12 =>
    cond (shapeOk rk_laws_toCmd r12.1)
    ((cS (cellsAt r12.1 0) 0).bind fun s13 =>
    (cC (cellsAt r12.1 0) 1).bind fun c14 =>
    (idxA 2 (c4) i5).bind fun c15 =>
    (hStore r12.2 (c15) [Cell.str s13, c14]).bind fun h16 =>
    laws_toCmdS_l0 k m n (c3) (c4) (IntKind.i64.wrap (i5 + 1)) h16)
    none)
    (some ([.one (c4)], H6))
noncomputable def laws_toCmdS (k m : Nat) (c1 : Cell) : Option Res :=
  (lenC c1).bind fun n2 =>
  if 0 ≤ (n2 : Int) ∧ (n2 : Int) ≤ (n2 : Int) ∧ (n2 : Int) * 40 ≤ bound ∧ (n2 : Int) ≤ bound then
  (laws_toCmdS_l0 k m m (c1) ((.vs 0 2 0 (n2 : Int).toNat 0)) 0 [Entry.mk 2 (mkRows (n2 : Int).toNat [Cell.str (bs []), .lst true 1 []]) 0 false]) else none
noncomputable abbrev laws_toCmdS_l0_B (k m : Nat) : (Ex → Fr → Option Res) → Fr → Option Res := evC G_laws_toCmdS fi_laws_toCmdS (evF G_laws_toCmdS (k + 1)) m (sub [1, 1, 0, 1, 2, 3] fi_laws_toCmdS.code) none
noncomputable abbrev laws_toCmdS_l0_K (k m : Nat) : Ex → Fr → Option Res := blockK 0 (seqK (evC G_laws_toCmdS fi_laws_toCmdS (evF G_laws_toCmdS (k + 1)) m (sub [1, 1, 1] fi_laws_toCmdS.code) none) (retK G_laws_toCmdS fi_laws_toCmdS))
theorem laws_toCmdS_l0_eq (k m : Nat) : ∀ (n : Nat) (c3 : Cell) (c4 : Cell) (i5 : Int) (H6 : List Entry), loopK (some [0, 3, 4]) (laws_toCmdS_l0_B k m) (laws_toCmdS_l0_K k m) n ⟨fT 23 0 [(0, .av (.one (c3))), (3, .av (.one (c4))), (4, .av (.one (Cell.int i5)))], fX 23 0 [], H6⟩ = laws_toCmdS_l0 (k + 1) m n c3 c4 i5 H6 := by
  intro n
  induction n with
  | zero => intros; rfl
  | succ n ih =>
    intros
    simp only [laws_toCmdS_l0, ← ih]
    kernel_rfl
theorem laws_toCmdS_code (k m : Nat) (c1 : Cell) : evC G_laws_toCmdS fi_laws_toCmdS (evF G_laws_toCmdS (k + 1)) m fi_laws_toCmdS.code none (retK G_laws_toCmdS fi_laws_toCmdS) (enter fi_laws_toCmdS [.one (c1)] []) = laws_toCmdS (k + 1) m c1 := by
  simp only [laws_toCmdS, ← laws_toCmdS_l0_eq k m]
  kernel_rfl
theorem laws_toCmdS_eq (k : Nat) (c1 : Cell) : evF G_laws_toCmdS (k + 2) fid_laws_toCmdS [.one (c1)] [] = laws_toCmdS (k + 1) (k + 1) c1 :=
  Eq.trans (by kernel_rfl) (laws_toCmdS_code k (k + 1) c1)
theorem run_laws_toCmdS_of {c1 : Cell} {r : Res} (k : Nat) (h : laws_toCmdS (k + 1) (k + 1) c1 = some r) : run_laws_toCmdS [.one (c1)] [] = some r := lim_of ((laws_toCmdS_eq k c1).trans h)
noncomputable def pl_laws_toPack : List (Nat × Run) := [(fid_laws_toStringS, run_laws_toStringS), (fid_laws_toNeedS, run_laws_toNeedS), (fid_laws_toCmdS, run_laws_toCmdS)]
noncomputable def G_laws_toPack : Ctx := ctx tyTab fiTab pl_laws_toPack
noncomputable def run_laws_toPack : Run := lim G_laws_toPack fid_laws_toPack
theorem ok_laws_toPack : FnOk Try.prog OkT fid_laws_toPack run_laws_toPack := lim_ok (l := pl_laws_toPack) Try_mix tyTab_ok fiTab_ok okT (.cons ok_laws_toStringS (.cons ok_laws_toNeedS (.cons ok_laws_toCmdS .nil))) fid_laws_toPack
noncomputable def laws_toPack (k m : Nat) (s1 : ByteArray) (c2 : Cell) (c3 : Cell) (c4 : Cell) : Option Res :=
  (callF run_laws_toStringS [.one (c2)] []).bind fun r5 =>
  cond (shapeOk rk_laws_toStringS r5.1)
  ((cC (cellsAt r5.1 0) 0).bind fun c6 =>
  (callF run_laws_toNeedS [.one (c3)] r5.2).bind fun r7 =>
  cond (shapeOk rk_laws_toNeedS r7.1)
  ((cC (cellsAt r7.1 0) 0).bind fun c8 =>
  (callF run_laws_toCmdS [.one (c4)] r7.2).bind fun r9 =>
  cond (shapeOk rk_laws_toCmdS r9.1)
  ((cC (cellsAt r9.1 0) 0).bind fun c10 =>
  some ([.agg [Cell.str s1, c6, c8, c10]], r9.2))
  none)
  none)
  none
theorem laws_toPack_code (k m : Nat) (s1 : ByteArray) (c2 : Cell) (c3 : Cell) (c4 : Cell) : evC G_laws_toPack fi_laws_toPack (evF G_laws_toPack (k + 1)) m fi_laws_toPack.code none (retK G_laws_toPack fi_laws_toPack) (enter fi_laws_toPack [.agg [Cell.str s1, c2, c3, c4]] []) = laws_toPack (k + 1) m s1 c2 c3 c4 := by
  kernel_rfl
theorem laws_toPack_eq (k : Nat) (s1 : ByteArray) (c2 : Cell) (c3 : Cell) (c4 : Cell) : evF G_laws_toPack (k + 2) fid_laws_toPack [.agg [Cell.str s1, c2, c3, c4]] [] = laws_toPack (k + 1) (k + 1) s1 c2 c3 c4 :=
  Eq.trans (by kernel_rfl) (laws_toPack_code k (k + 1) s1 c2 c3 c4)
theorem run_laws_toPack_of {s1 : ByteArray} {c2 : Cell} {c3 : Cell} {c4 : Cell} {r : Res} (k : Nat) (h : laws_toPack (k + 1) (k + 1) s1 c2 c3 c4 = some r) : run_laws_toPack [.agg [Cell.str s1, c2, c3, c4]] [] = some r := lim_of ((laws_toPack_eq k s1 c2 c3 c4).trans h)
noncomputable def pl_laws_toPackS : List (Nat × Run) := [(fid_laws_toPack, run_laws_toPack)]
noncomputable def G_laws_toPackS : Ctx := ctx tyTab fiTab pl_laws_toPackS
noncomputable def run_laws_toPackS : Run := lim G_laws_toPackS fid_laws_toPackS
theorem ok_laws_toPackS : FnOk Try.prog OkT fid_laws_toPackS run_laws_toPackS := lim_ok (l := pl_laws_toPackS) Try_mix tyTab_ok fiTab_ok okT (.cons ok_laws_toPack .nil) fid_laws_toPackS
noncomputable def laws_toPackS_l0 (k m : Nat) : Nat → Cell → Cell → Int → List Entry → Option Res
  | 0, _, _, _, _ => none
  | n + 1, c3, c4, i5, H6 =>
    (lenC c3).bind fun n7 =>
    cond (decide (i5 < (n7 : Int)))
    ((idxA 4 (c3) i5).bind fun c8 =>
    (deref H6 (c8)).bind fun p9 =>
    (cS p9.1 p9.2).bind fun s10 =>
    (cC p9.1 (p9.2 + 1)).bind fun c11 =>
    (cC p9.1 ((p9.2 + 1) + 1)).bind fun c12 =>
    (cC p9.1 (((p9.2 + 1) + 1) + 1)).bind fun c13 =>
    (callF run_laws_toPack [.agg [Cell.str s10, c11, c12, c13]] H6).bind fun r14 =>
    cond (shapeOk rk_laws_toPack r14.1)
    ((cS (cellsAt r14.1 0) 0).bind fun s15 =>
    (cC (cellsAt r14.1 0) 1).bind fun c16 =>
    (cC (cellsAt r14.1 0) 2).bind fun c17 =>
    (cC (cellsAt r14.1 0) 3).bind fun c18 =>
    (idxA 4 (c4) i5).bind fun c19 =>
    (hStore r14.2 (c19) [Cell.str s15, c16, c17, c18]).bind fun h20 =>
    laws_toPackS_l0 k m n (c3) (c4) (IntKind.i64.wrap (i5 + 1)) h20)
    none)
    (some ([.one (c4)], H6))
noncomputable def laws_toPackS (k m : Nat) (c1 : Cell) : Option Res :=
  (lenC c1).bind fun n2 =>
  if 0 ≤ (n2 : Int) ∧ (n2 : Int) ≤ (n2 : Int) ∧ (n2 : Int) * 88 ≤ bound ∧ (n2 : Int) ≤ bound then
  (laws_toPackS_l0 k m m (c1) ((.vs 0 4 0 (n2 : Int).toNat 0)) 0 [Entry.mk 4 (mkRows (n2 : Int).toNat [Cell.str (bs []), .lst true 1 [], .lst true 2 [], .lst true 2 []]) 0 false]) else none
noncomputable abbrev laws_toPackS_l0_B (k m : Nat) : (Ex → Fr → Option Res) → Fr → Option Res := evC G_laws_toPackS fi_laws_toPackS (evF G_laws_toPackS (k + 1)) m (sub [1, 1, 0, 1, 2, 3] fi_laws_toPackS.code) none
noncomputable abbrev laws_toPackS_l0_K (k m : Nat) : Ex → Fr → Option Res := blockK 0 (seqK (evC G_laws_toPackS fi_laws_toPackS (evF G_laws_toPackS (k + 1)) m (sub [1, 1, 1] fi_laws_toPackS.code) none) (retK G_laws_toPackS fi_laws_toPackS))
theorem laws_toPackS_l0_eq (k m : Nat) : ∀ (n : Nat) (c3 : Cell) (c4 : Cell) (i5 : Int) (H6 : List Entry), loopK (some [0, 3, 4]) (laws_toPackS_l0_B k m) (laws_toPackS_l0_K k m) n ⟨fT 23 0 [(0, .av (.one (c3))), (3, .av (.one (c4))), (4, .av (.one (Cell.int i5)))], fX 23 0 [], H6⟩ = laws_toPackS_l0 (k + 1) m n c3 c4 i5 H6 := by
  intro n
  induction n with
  | zero => intros; rfl
  | succ n ih =>
    intros
    simp only [laws_toPackS_l0, ← ih]
    kernel_rfl
theorem laws_toPackS_code (k m : Nat) (c1 : Cell) : evC G_laws_toPackS fi_laws_toPackS (evF G_laws_toPackS (k + 1)) m fi_laws_toPackS.code none (retK G_laws_toPackS fi_laws_toPackS) (enter fi_laws_toPackS [.one (c1)] []) = laws_toPackS (k + 1) m c1 := by
  simp only [laws_toPackS, ← laws_toPackS_l0_eq k m]
  kernel_rfl
theorem laws_toPackS_eq (k : Nat) (c1 : Cell) : evF G_laws_toPackS (k + 2) fid_laws_toPackS [.one (c1)] [] = laws_toPackS (k + 1) (k + 1) c1 :=
  Eq.trans (by kernel_rfl) (laws_toPackS_code k (k + 1) c1)
theorem run_laws_toPackS_of {c1 : Cell} {r : Res} (k : Nat) (h : laws_toPackS (k + 1) (k + 1) c1 = some r) : run_laws_toPackS [.one (c1)] [] = some r := lim_of ((laws_toPackS_eq k c1).trans h)
noncomputable def pl_laws_eqStringS : List (Nat × Run) := []
noncomputable def G_laws_eqStringS : Ctx := ctx tyTab fiTab pl_laws_eqStringS
noncomputable def run_laws_eqStringS : Run := lim G_laws_eqStringS fid_laws_eqStringS
theorem ok_laws_eqStringS : FnOk Try.prog OkT fid_laws_eqStringS run_laws_eqStringS := lim_ok (l := pl_laws_eqStringS) Try_mix tyTab_ok fiTab_ok okT .nil fid_laws_eqStringS
noncomputable def laws_eqStringS_l0 (k m : Nat) : Nat → Cell → Cell → Int → Option Res
  | 0, _, _, _ => none
  | n + 1, c5, c6, i7 =>
    (lenC c5).bind fun n8 =>
    cond (decide (i7 < (n8 : Int)))
    ((idxA 1 (c5) i7).bind fun c9 =>
    (deref [] (c9)).bind fun p10 =>
    (cS p10.1 p10.2).bind fun s11 =>
    (idxA 1 (c6) i7).bind fun c12 =>
    (deref [] (c12)).bind fun p13 =>
    (cS p13.1 p13.2).bind fun s14 =>
    cond (!(s11.toList == s14.toList))
    (some ([.one (Cell.bool false)], []))
    (laws_eqStringS_l0 k m n (c5) (c6) (IntKind.i64.wrap (i7 + 1))))
    (some ([.one (Cell.bool true)], []))
noncomputable def laws_eqStringS (k m : Nat) (c1 : Cell) (c2 : Cell) : Option Res :=
  (lenC c1).bind fun n3 =>
  (lenC c2).bind fun n4 =>
  cond ((n3 : Int) != (n4 : Int))
  (some ([.one (Cell.bool false)], []))
  (laws_eqStringS_l0 k m m (c1) (c2) 0)
noncomputable abbrev laws_eqStringS_l0_B (k m : Nat) : (Ex → Fr → Option Res) → Fr → Option Res := evC G_laws_eqStringS fi_laws_eqStringS (evF G_laws_eqStringS (k + 1)) m (sub [1, 1, 0, 1, 2, 3] fi_laws_eqStringS.code) none
noncomputable abbrev laws_eqStringS_l0_K (k m : Nat) : Ex → Fr → Option Res := blockK 0 (seqK (evC G_laws_eqStringS fi_laws_eqStringS (evF G_laws_eqStringS (k + 1)) m (sub [1, 1, 1] fi_laws_eqStringS.code) none) (retK G_laws_eqStringS fi_laws_eqStringS))
theorem laws_eqStringS_l0_eq (k m : Nat) : ∀ (n : Nat) (c5 : Cell) (c6 : Cell) (i7 : Int), loopK (some [0, 1, 5]) (laws_eqStringS_l0_B k m) (laws_eqStringS_l0_K k m) n ⟨fT 26 0 [(0, .av (.one (c5))), (1, .av (.one (c6))), (5, .av (.one (Cell.int i7)))], fX 26 0 [], []⟩ = laws_eqStringS_l0 (k + 1) m n c5 c6 i7 := by
  intro n
  induction n with
  | zero => intros; rfl
  | succ n ih =>
    intros
    simp only [laws_eqStringS_l0, ← ih]
    kernel_rfl
theorem laws_eqStringS_code (k m : Nat) (c1 : Cell) (c2 : Cell) : evC G_laws_eqStringS fi_laws_eqStringS (evF G_laws_eqStringS (k + 1)) m fi_laws_eqStringS.code none (retK G_laws_eqStringS fi_laws_eqStringS) (enter fi_laws_eqStringS [.one (c1), .one (c2)] []) = laws_eqStringS (k + 1) m c1 c2 := by
  simp only [laws_eqStringS, ← laws_eqStringS_l0_eq k m]
  kernel_rfl
theorem laws_eqStringS_eq (k : Nat) (c1 : Cell) (c2 : Cell) : evF G_laws_eqStringS (k + 2) fid_laws_eqStringS [.one (c1), .one (c2)] [] = laws_eqStringS (k + 1) (k + 1) c1 c2 :=
  Eq.trans (by kernel_rfl) (laws_eqStringS_code k (k + 1) c1 c2)
theorem run_laws_eqStringS_of {c1 : Cell} {c2 : Cell} {r : Res} (k : Nat) (h : laws_eqStringS (k + 1) (k + 1) c1 c2 = some r) : run_laws_eqStringS [.one (c1), .one (c2)] [] = some r := lim_of ((laws_eqStringS_eq k c1 c2).trans h)
noncomputable def pl_laws_eqNeed : List (Nat × Run) := []
noncomputable def G_laws_eqNeed : Ctx := ctx tyTab fiTab pl_laws_eqNeed
noncomputable def run_laws_eqNeed : Run := lim G_laws_eqNeed fid_laws_eqNeed
theorem ok_laws_eqNeed : FnOk Try.prog OkT fid_laws_eqNeed run_laws_eqNeed := lim_ok (l := pl_laws_eqNeed) Try_mix tyTab_ok fiTab_ok okT .nil fid_laws_eqNeed
noncomputable def laws_eqNeed (k m : Nat) (s1 : ByteArray) (s2 : ByteArray) (s3 : ByteArray) (s4 : ByteArray) : Option Res :=
  cond (!(s1.toList == s3.toList))
  (some ([.one (Cell.bool false)], []))
  (cond (!(s2.toList == s4.toList))
  (some ([.one (Cell.bool false)], []))
  (some ([.one (Cell.bool true)], [])))
theorem laws_eqNeed_code (k m : Nat) (s1 : ByteArray) (s2 : ByteArray) (s3 : ByteArray) (s4 : ByteArray) : evC G_laws_eqNeed fi_laws_eqNeed (evF G_laws_eqNeed (k + 1)) m fi_laws_eqNeed.code none (retK G_laws_eqNeed fi_laws_eqNeed) (enter fi_laws_eqNeed [.agg [Cell.str s1, Cell.str s2], .agg [Cell.str s3, Cell.str s4]] []) = laws_eqNeed (k + 1) m s1 s2 s3 s4 := by
  kernel_rfl
theorem laws_eqNeed_eq (k : Nat) (s1 : ByteArray) (s2 : ByteArray) (s3 : ByteArray) (s4 : ByteArray) : evF G_laws_eqNeed (k + 2) fid_laws_eqNeed [.agg [Cell.str s1, Cell.str s2], .agg [Cell.str s3, Cell.str s4]] [] = laws_eqNeed (k + 1) (k + 1) s1 s2 s3 s4 :=
  Eq.trans (by kernel_rfl) (laws_eqNeed_code k (k + 1) s1 s2 s3 s4)
theorem run_laws_eqNeed_of {s1 : ByteArray} {s2 : ByteArray} {s3 : ByteArray} {s4 : ByteArray} {r : Res} (k : Nat) (h : laws_eqNeed (k + 1) (k + 1) s1 s2 s3 s4 = some r) : run_laws_eqNeed [.agg [Cell.str s1, Cell.str s2], .agg [Cell.str s3, Cell.str s4]] [] = some r := lim_of ((laws_eqNeed_eq k s1 s2 s3 s4).trans h)
noncomputable def pl_laws_eqNeedS : List (Nat × Run) := [(fid_laws_eqNeed, run_laws_eqNeed)]
noncomputable def G_laws_eqNeedS : Ctx := ctx tyTab fiTab pl_laws_eqNeedS
noncomputable def run_laws_eqNeedS : Run := lim G_laws_eqNeedS fid_laws_eqNeedS
theorem ok_laws_eqNeedS : FnOk Try.prog OkT fid_laws_eqNeedS run_laws_eqNeedS := lim_ok (l := pl_laws_eqNeedS) Try_mix tyTab_ok fiTab_ok okT (.cons ok_laws_eqNeed .nil) fid_laws_eqNeedS
noncomputable def laws_eqNeedS_l0 (k m : Nat) : Nat → Cell → Cell → Int → Option Res
  | 0, _, _, _ => none
  | n + 1, c5, c6, i7 =>
    (lenC c5).bind fun n8 =>
    cond (decide (i7 < (n8 : Int)))
    ((idxA 2 (c5) i7).bind fun c9 =>
    (deref [] (c9)).bind fun p10 =>
    (cS p10.1 p10.2).bind fun s11 =>
    (cS p10.1 (p10.2 + 1)).bind fun s12 =>
    (idxA 2 (c6) i7).bind fun c13 =>
    (deref [] (c13)).bind fun p14 =>
    (cS p14.1 p14.2).bind fun s15 =>
    (cS p14.1 (p14.2 + 1)).bind fun s16 =>
    (callS run_laws_eqNeed [.agg [Cell.str s11, Cell.str s12], .agg [Cell.str s15, Cell.str s16]] []).bind fun r17 =>
    cond (shapeOk rk_laws_eqNeed r17)
    ((cB (cellsAt r17 0) 0).bind fun b18 =>
    cond (!b18)
    (some ([.one (Cell.bool false)], []))
    (laws_eqNeedS_l0 k m n (c5) (c6) (IntKind.i64.wrap (i7 + 1))))
    none)
    (some ([.one (Cell.bool true)], []))
noncomputable def laws_eqNeedS (k m : Nat) (c1 : Cell) (c2 : Cell) : Option Res :=
  (lenC c1).bind fun n3 =>
  (lenC c2).bind fun n4 =>
  cond ((n3 : Int) != (n4 : Int))
  (some ([.one (Cell.bool false)], []))
  (laws_eqNeedS_l0 k m m (c1) (c2) 0)
noncomputable abbrev laws_eqNeedS_l0_B (k m : Nat) : (Ex → Fr → Option Res) → Fr → Option Res := evC G_laws_eqNeedS fi_laws_eqNeedS (evF G_laws_eqNeedS (k + 1)) m (sub [1, 1, 0, 1, 2, 3] fi_laws_eqNeedS.code) none
noncomputable abbrev laws_eqNeedS_l0_K (k m : Nat) : Ex → Fr → Option Res := blockK 0 (seqK (evC G_laws_eqNeedS fi_laws_eqNeedS (evF G_laws_eqNeedS (k + 1)) m (sub [1, 1, 1] fi_laws_eqNeedS.code) none) (retK G_laws_eqNeedS fi_laws_eqNeedS))
theorem laws_eqNeedS_l0_eq (k m : Nat) : ∀ (n : Nat) (c5 : Cell) (c6 : Cell) (i7 : Int), loopK (some [0, 1, 5]) (laws_eqNeedS_l0_B k m) (laws_eqNeedS_l0_K k m) n ⟨fT 27 0 [(0, .av (.one (c5))), (1, .av (.one (c6))), (5, .av (.one (Cell.int i7)))], fX 27 0 [], []⟩ = laws_eqNeedS_l0 (k + 1) m n c5 c6 i7 := by
  intro n
  induction n with
  | zero => intros; rfl
  | succ n ih =>
    intros
    simp only [laws_eqNeedS_l0, ← ih]
    kernel_rfl
theorem laws_eqNeedS_code (k m : Nat) (c1 : Cell) (c2 : Cell) : evC G_laws_eqNeedS fi_laws_eqNeedS (evF G_laws_eqNeedS (k + 1)) m fi_laws_eqNeedS.code none (retK G_laws_eqNeedS fi_laws_eqNeedS) (enter fi_laws_eqNeedS [.one (c1), .one (c2)] []) = laws_eqNeedS (k + 1) m c1 c2 := by
  simp only [laws_eqNeedS, ← laws_eqNeedS_l0_eq k m]
  kernel_rfl
theorem laws_eqNeedS_eq (k : Nat) (c1 : Cell) (c2 : Cell) : evF G_laws_eqNeedS (k + 2) fid_laws_eqNeedS [.one (c1), .one (c2)] [] = laws_eqNeedS (k + 1) (k + 1) c1 c2 :=
  Eq.trans (by kernel_rfl) (laws_eqNeedS_code k (k + 1) c1 c2)
theorem run_laws_eqNeedS_of {c1 : Cell} {c2 : Cell} {r : Res} (k : Nat) (h : laws_eqNeedS (k + 1) (k + 1) c1 c2 = some r) : run_laws_eqNeedS [.one (c1), .one (c2)] [] = some r := lim_of ((laws_eqNeedS_eq k c1 c2).trans h)
noncomputable def pl_laws_eqCmd : List (Nat × Run) := [(fid_laws_eqStringS, run_laws_eqStringS)]
noncomputable def G_laws_eqCmd : Ctx := ctx tyTab fiTab pl_laws_eqCmd
noncomputable def run_laws_eqCmd : Run := lim G_laws_eqCmd fid_laws_eqCmd
theorem ok_laws_eqCmd : FnOk Try.prog OkT fid_laws_eqCmd run_laws_eqCmd := lim_ok (l := pl_laws_eqCmd) Try_mix tyTab_ok fiTab_ok okT (.cons ok_laws_eqStringS .nil) fid_laws_eqCmd
noncomputable def laws_eqCmd (k m : Nat) (s1 : ByteArray) (c2 : Cell) (s3 : ByteArray) (c4 : Cell) : Option Res :=
  cond (!(s1.toList == s3.toList))
  (some ([.one (Cell.bool false)], []))
  ((callS run_laws_eqStringS [.one (c2), .one (c4)] []).bind fun r5 =>
  cond (shapeOk rk_laws_eqStringS r5)
  ((cB (cellsAt r5 0) 0).bind fun b6 =>
  cond (!b6)
  (some ([.one (Cell.bool false)], []))
  (some ([.one (Cell.bool true)], [])))
  none)
theorem laws_eqCmd_code (k m : Nat) (s1 : ByteArray) (c2 : Cell) (s3 : ByteArray) (c4 : Cell) : evC G_laws_eqCmd fi_laws_eqCmd (evF G_laws_eqCmd (k + 1)) m fi_laws_eqCmd.code none (retK G_laws_eqCmd fi_laws_eqCmd) (enter fi_laws_eqCmd [.agg [Cell.str s1, c2], .agg [Cell.str s3, c4]] []) = laws_eqCmd (k + 1) m s1 c2 s3 c4 := by
  kernel_rfl
theorem laws_eqCmd_eq (k : Nat) (s1 : ByteArray) (c2 : Cell) (s3 : ByteArray) (c4 : Cell) : evF G_laws_eqCmd (k + 2) fid_laws_eqCmd [.agg [Cell.str s1, c2], .agg [Cell.str s3, c4]] [] = laws_eqCmd (k + 1) (k + 1) s1 c2 s3 c4 :=
  Eq.trans (by kernel_rfl) (laws_eqCmd_code k (k + 1) s1 c2 s3 c4)
theorem run_laws_eqCmd_of {s1 : ByteArray} {c2 : Cell} {s3 : ByteArray} {c4 : Cell} {r : Res} (k : Nat) (h : laws_eqCmd (k + 1) (k + 1) s1 c2 s3 c4 = some r) : run_laws_eqCmd [.agg [Cell.str s1, c2], .agg [Cell.str s3, c4]] [] = some r := lim_of ((laws_eqCmd_eq k s1 c2 s3 c4).trans h)
noncomputable def pl_laws_eqCmdS : List (Nat × Run) := [(fid_laws_eqCmd, run_laws_eqCmd)]
noncomputable def G_laws_eqCmdS : Ctx := ctx tyTab fiTab pl_laws_eqCmdS
noncomputable def run_laws_eqCmdS : Run := lim G_laws_eqCmdS fid_laws_eqCmdS
theorem ok_laws_eqCmdS : FnOk Try.prog OkT fid_laws_eqCmdS run_laws_eqCmdS := lim_ok (l := pl_laws_eqCmdS) Try_mix tyTab_ok fiTab_ok okT (.cons ok_laws_eqCmd .nil) fid_laws_eqCmdS
noncomputable def laws_eqCmdS_l0 (k m : Nat) : Nat → Cell → Cell → Int → Option Res
  | 0, _, _, _ => none
  | n + 1, c5, c6, i7 =>
    (lenC c5).bind fun n8 =>
    cond (decide (i7 < (n8 : Int)))
    ((idxA 2 (c5) i7).bind fun c9 =>
    (deref [] (c9)).bind fun p10 =>
    (cS p10.1 p10.2).bind fun s11 =>
    (cC p10.1 (p10.2 + 1)).bind fun c12 =>
    (idxA 2 (c6) i7).bind fun c13 =>
    (deref [] (c13)).bind fun p14 =>
    (cS p14.1 p14.2).bind fun s15 =>
    (cC p14.1 (p14.2 + 1)).bind fun c16 =>
    (callS run_laws_eqCmd [.agg [Cell.str s11, c12], .agg [Cell.str s15, c16]] []).bind fun r17 =>
    cond (shapeOk rk_laws_eqCmd r17)
    ((cB (cellsAt r17 0) 0).bind fun b18 =>
    cond (!b18)
    (some ([.one (Cell.bool false)], []))
    (laws_eqCmdS_l0 k m n (c5) (c6) (IntKind.i64.wrap (i7 + 1))))
    none)
    (some ([.one (Cell.bool true)], []))
noncomputable def laws_eqCmdS (k m : Nat) (c1 : Cell) (c2 : Cell) : Option Res :=
  (lenC c1).bind fun n3 =>
  (lenC c2).bind fun n4 =>
  cond ((n3 : Int) != (n4 : Int))
  (some ([.one (Cell.bool false)], []))
  (laws_eqCmdS_l0 k m m (c1) (c2) 0)
noncomputable abbrev laws_eqCmdS_l0_B (k m : Nat) : (Ex → Fr → Option Res) → Fr → Option Res := evC G_laws_eqCmdS fi_laws_eqCmdS (evF G_laws_eqCmdS (k + 1)) m (sub [1, 1, 0, 1, 2, 3] fi_laws_eqCmdS.code) none
noncomputable abbrev laws_eqCmdS_l0_K (k m : Nat) : Ex → Fr → Option Res := blockK 0 (seqK (evC G_laws_eqCmdS fi_laws_eqCmdS (evF G_laws_eqCmdS (k + 1)) m (sub [1, 1, 1] fi_laws_eqCmdS.code) none) (retK G_laws_eqCmdS fi_laws_eqCmdS))
theorem laws_eqCmdS_l0_eq (k m : Nat) : ∀ (n : Nat) (c5 : Cell) (c6 : Cell) (i7 : Int), loopK (some [0, 1, 5]) (laws_eqCmdS_l0_B k m) (laws_eqCmdS_l0_K k m) n ⟨fT 27 0 [(0, .av (.one (c5))), (1, .av (.one (c6))), (5, .av (.one (Cell.int i7)))], fX 27 0 [], []⟩ = laws_eqCmdS_l0 (k + 1) m n c5 c6 i7 := by
  intro n
  induction n with
  | zero => intros; rfl
  | succ n ih =>
    intros
    simp only [laws_eqCmdS_l0, ← ih]
    kernel_rfl
theorem laws_eqCmdS_code (k m : Nat) (c1 : Cell) (c2 : Cell) : evC G_laws_eqCmdS fi_laws_eqCmdS (evF G_laws_eqCmdS (k + 1)) m fi_laws_eqCmdS.code none (retK G_laws_eqCmdS fi_laws_eqCmdS) (enter fi_laws_eqCmdS [.one (c1), .one (c2)] []) = laws_eqCmdS (k + 1) m c1 c2 := by
  simp only [laws_eqCmdS, ← laws_eqCmdS_l0_eq k m]
  kernel_rfl
theorem laws_eqCmdS_eq (k : Nat) (c1 : Cell) (c2 : Cell) : evF G_laws_eqCmdS (k + 2) fid_laws_eqCmdS [.one (c1), .one (c2)] [] = laws_eqCmdS (k + 1) (k + 1) c1 c2 :=
  Eq.trans (by kernel_rfl) (laws_eqCmdS_code k (k + 1) c1 c2)
theorem run_laws_eqCmdS_of {c1 : Cell} {c2 : Cell} {r : Res} (k : Nat) (h : laws_eqCmdS (k + 1) (k + 1) c1 c2 = some r) : run_laws_eqCmdS [.one (c1), .one (c2)] [] = some r := lim_of ((laws_eqCmdS_eq k c1 c2).trans h)
noncomputable def pl_laws_eqPack : List (Nat × Run) := [(fid_laws_eqStringS, run_laws_eqStringS), (fid_laws_eqNeedS, run_laws_eqNeedS), (fid_laws_eqCmdS, run_laws_eqCmdS)]
noncomputable def G_laws_eqPack : Ctx := ctx tyTab fiTab pl_laws_eqPack
noncomputable def run_laws_eqPack : Run := lim G_laws_eqPack fid_laws_eqPack
theorem ok_laws_eqPack : FnOk Try.prog OkT fid_laws_eqPack run_laws_eqPack := lim_ok (l := pl_laws_eqPack) Try_mix tyTab_ok fiTab_ok okT (.cons ok_laws_eqStringS (.cons ok_laws_eqNeedS (.cons ok_laws_eqCmdS .nil))) fid_laws_eqPack
noncomputable def laws_eqPack (k m : Nat) (s1 : ByteArray) (c2 : Cell) (c3 : Cell) (c4 : Cell) (s5 : ByteArray) (c6 : Cell) (c7 : Cell) (c8 : Cell) : Option Res :=
  cond (!(s1.toList == s5.toList))
  (some ([.one (Cell.bool false)], []))
  ((callS run_laws_eqStringS [.one (c2), .one (c6)] []).bind fun r9 =>
  cond (shapeOk rk_laws_eqStringS r9)
  ((cB (cellsAt r9 0) 0).bind fun b10 =>
  cond (!b10)
  (some ([.one (Cell.bool false)], []))
  ((callS run_laws_eqNeedS [.one (c3), .one (c7)] []).bind fun r11 =>
  cond (shapeOk rk_laws_eqNeedS r11)
  ((cB (cellsAt r11 0) 0).bind fun b12 =>
  cond (!b12)
  (some ([.one (Cell.bool false)], []))
  ((callS run_laws_eqCmdS [.one (c4), .one (c8)] []).bind fun r13 =>
  cond (shapeOk rk_laws_eqCmdS r13)
  ((cB (cellsAt r13 0) 0).bind fun b14 =>
  cond (!b14)
  (some ([.one (Cell.bool false)], []))
  (some ([.one (Cell.bool true)], [])))
  none))
  none))
  none)
theorem laws_eqPack_code (k m : Nat) (s1 : ByteArray) (c2 : Cell) (c3 : Cell) (c4 : Cell) (s5 : ByteArray) (c6 : Cell) (c7 : Cell) (c8 : Cell) : evC G_laws_eqPack fi_laws_eqPack (evF G_laws_eqPack (k + 1)) m fi_laws_eqPack.code none (retK G_laws_eqPack fi_laws_eqPack) (enter fi_laws_eqPack [.agg [Cell.str s1, c2, c3, c4], .agg [Cell.str s5, c6, c7, c8]] []) = laws_eqPack (k + 1) m s1 c2 c3 c4 s5 c6 c7 c8 := by
  kernel_rfl
theorem laws_eqPack_eq (k : Nat) (s1 : ByteArray) (c2 : Cell) (c3 : Cell) (c4 : Cell) (s5 : ByteArray) (c6 : Cell) (c7 : Cell) (c8 : Cell) : evF G_laws_eqPack (k + 2) fid_laws_eqPack [.agg [Cell.str s1, c2, c3, c4], .agg [Cell.str s5, c6, c7, c8]] [] = laws_eqPack (k + 1) (k + 1) s1 c2 c3 c4 s5 c6 c7 c8 :=
  Eq.trans (by kernel_rfl) (laws_eqPack_code k (k + 1) s1 c2 c3 c4 s5 c6 c7 c8)
theorem run_laws_eqPack_of {s1 : ByteArray} {c2 : Cell} {c3 : Cell} {c4 : Cell} {s5 : ByteArray} {c6 : Cell} {c7 : Cell} {c8 : Cell} {r : Res} (k : Nat) (h : laws_eqPack (k + 1) (k + 1) s1 c2 c3 c4 s5 c6 c7 c8 = some r) : run_laws_eqPack [.agg [Cell.str s1, c2, c3, c4], .agg [Cell.str s5, c6, c7, c8]] [] = some r := lim_of ((laws_eqPack_eq k s1 c2 c3 c4 s5 c6 c7 c8).trans h)
noncomputable def pl_laws_eqPackS : List (Nat × Run) := [(fid_laws_eqPack, run_laws_eqPack)]
noncomputable def G_laws_eqPackS : Ctx := ctx tyTab fiTab pl_laws_eqPackS
noncomputable def run_laws_eqPackS : Run := lim G_laws_eqPackS fid_laws_eqPackS
theorem ok_laws_eqPackS : FnOk Try.prog OkT fid_laws_eqPackS run_laws_eqPackS := lim_ok (l := pl_laws_eqPackS) Try_mix tyTab_ok fiTab_ok okT (.cons ok_laws_eqPack .nil) fid_laws_eqPackS
noncomputable def laws_eqPackS_l0 (k m : Nat) : Nat → Cell → Cell → Int → Option Res
  | 0, _, _, _ => none
  | n + 1, c5, c6, i7 =>
    (lenC c5).bind fun n8 =>
    cond (decide (i7 < (n8 : Int)))
    ((idxA 4 (c5) i7).bind fun c9 =>
    (deref [] (c9)).bind fun p10 =>
    (cS p10.1 p10.2).bind fun s11 =>
    (cC p10.1 (p10.2 + 1)).bind fun c12 =>
    (cC p10.1 ((p10.2 + 1) + 1)).bind fun c13 =>
    (cC p10.1 (((p10.2 + 1) + 1) + 1)).bind fun c14 =>
    (idxA 4 (c6) i7).bind fun c15 =>
    (deref [] (c15)).bind fun p16 =>
    (cS p16.1 p16.2).bind fun s17 =>
    (cC p16.1 (p16.2 + 1)).bind fun c18 =>
    (cC p16.1 ((p16.2 + 1) + 1)).bind fun c19 =>
    (cC p16.1 (((p16.2 + 1) + 1) + 1)).bind fun c20 =>
    (callS run_laws_eqPack [.agg [Cell.str s11, c12, c13, c14], .agg [Cell.str s17, c18, c19, c20]] []).bind fun r21 =>
    cond (shapeOk rk_laws_eqPack r21)
    ((cB (cellsAt r21 0) 0).bind fun b22 =>
    cond (!b22)
    (some ([.one (Cell.bool false)], []))
    (laws_eqPackS_l0 k m n (c5) (c6) (IntKind.i64.wrap (i7 + 1))))
    none)
    (some ([.one (Cell.bool true)], []))
noncomputable def laws_eqPackS (k m : Nat) (c1 : Cell) (c2 : Cell) : Option Res :=
  (lenC c1).bind fun n3 =>
  (lenC c2).bind fun n4 =>
  cond ((n3 : Int) != (n4 : Int))
  (some ([.one (Cell.bool false)], []))
  (laws_eqPackS_l0 k m m (c1) (c2) 0)
noncomputable abbrev laws_eqPackS_l0_B (k m : Nat) : (Ex → Fr → Option Res) → Fr → Option Res := evC G_laws_eqPackS fi_laws_eqPackS (evF G_laws_eqPackS (k + 1)) m (sub [1, 1, 0, 1, 2, 3] fi_laws_eqPackS.code) none
noncomputable abbrev laws_eqPackS_l0_K (k m : Nat) : Ex → Fr → Option Res := blockK 0 (seqK (evC G_laws_eqPackS fi_laws_eqPackS (evF G_laws_eqPackS (k + 1)) m (sub [1, 1, 1] fi_laws_eqPackS.code) none) (retK G_laws_eqPackS fi_laws_eqPackS))
theorem laws_eqPackS_l0_eq (k m : Nat) : ∀ (n : Nat) (c5 : Cell) (c6 : Cell) (i7 : Int), loopK (some [0, 1, 5]) (laws_eqPackS_l0_B k m) (laws_eqPackS_l0_K k m) n ⟨fT 27 0 [(0, .av (.one (c5))), (1, .av (.one (c6))), (5, .av (.one (Cell.int i7)))], fX 27 0 [], []⟩ = laws_eqPackS_l0 (k + 1) m n c5 c6 i7 := by
  intro n
  induction n with
  | zero => intros; rfl
  | succ n ih =>
    intros
    simp only [laws_eqPackS_l0, ← ih]
    kernel_rfl
theorem laws_eqPackS_code (k m : Nat) (c1 : Cell) (c2 : Cell) : evC G_laws_eqPackS fi_laws_eqPackS (evF G_laws_eqPackS (k + 1)) m fi_laws_eqPackS.code none (retK G_laws_eqPackS fi_laws_eqPackS) (enter fi_laws_eqPackS [.one (c1), .one (c2)] []) = laws_eqPackS (k + 1) m c1 c2 := by
  simp only [laws_eqPackS, ← laws_eqPackS_l0_eq k m]
  kernel_rfl
theorem laws_eqPackS_eq (k : Nat) (c1 : Cell) (c2 : Cell) : evF G_laws_eqPackS (k + 2) fid_laws_eqPackS [.one (c1), .one (c2)] [] = laws_eqPackS (k + 1) (k + 1) c1 c2 :=
  Eq.trans (by kernel_rfl) (laws_eqPackS_code k (k + 1) c1 c2)
theorem run_laws_eqPackS_of {c1 : Cell} {c2 : Cell} {r : Res} (k : Nat) (h : laws_eqPackS (k + 1) (k + 1) c1 c2 = some r) : run_laws_eqPackS [.one (c1), .one (c2)] [] = some r := lim_of ((laws_eqPackS_eq k c1 c2).trans h)
noncomputable def pl_laws_markText : List (Nat × Run) := []
noncomputable def G_laws_markText : Ctx := ctx tyTab fiTab pl_laws_markText
noncomputable def run_laws_markText : Run := lim G_laws_markText fid_laws_markText
theorem ok_laws_markText : FnOk Try.prog OkT fid_laws_markText run_laws_markText := lim_ok (l := pl_laws_markText) Try_mix tyTab_ok fiTab_ok okT .nil fid_laws_markText
noncomputable def laws_markText_l0 (k m : Nat) : Nat → Int → ByteArray → Option Res
  | 0, _, _ => none
  | n + 1, i2, s3 =>
    cond (decide (i2 > 0))
    ((bytesOf [] (.lst true 1 [[.sc (.int .u8 (IntKind.u8.wrap (IntKind.i64.wrap (48 + (i2.tmod 10)))))]])).bind fun s4 =>
    (catS s4 s3).bind fun s5 =>
    laws_markText_l0 k m n (IntKind.i64.wrap (i2.tdiv 10)) s5)
    ((catS (bs [109]) s3).bind fun s6 =>
    some ([.one (Cell.str s6)], []))
noncomputable def laws_markText (k m : Nat) (i1 : Int) : Option Res :=
  cond (decide (i1 ≤ 0))
  (some ([.one (Cell.str (bs [109, 48]))], []))
  (laws_markText_l0 k m m i1 (bs []))
noncomputable abbrev laws_markText_l0_B (k m : Nat) : (Ex → Fr → Option Res) → Fr → Option Res := evC G_laws_markText fi_laws_markText (evF G_laws_markText (k + 1)) m (sub [1, 1, 1, 0, 2, 3] fi_laws_markText.code) none
noncomputable abbrev laws_markText_l0_K (k m : Nat) : Ex → Fr → Option Res := blockK 0 (seqK (evC G_laws_markText fi_laws_markText (evF G_laws_markText (k + 1)) m (sub [1, 1, 1, 1] fi_laws_markText.code) none) (retK G_laws_markText fi_laws_markText))
theorem laws_markText_l0_eq (k m : Nat) : ∀ (n : Nat) (i2 : Int) (s3 : ByteArray), loopK (some [0, 3]) (laws_markText_l0_B k m) (laws_markText_l0_K k m) n ⟨fT 20 0 [(0, .av (.one (Cell.int i2))), (3, .av (.one (Cell.str s3)))], fX 20 0 [], []⟩ = laws_markText_l0 (k + 1) m n i2 s3 := by
  intro n
  induction n with
  | zero => intros; rfl
  | succ n ih =>
    intros
    simp only [laws_markText_l0, ← ih]
    kernel_rfl
theorem laws_markText_code (k m : Nat) (i1 : Int) : evC G_laws_markText fi_laws_markText (evF G_laws_markText (k + 1)) m fi_laws_markText.code none (retK G_laws_markText fi_laws_markText) (enter fi_laws_markText [.one (Cell.int i1)] []) = laws_markText (k + 1) m i1 := by
  simp only [laws_markText, ← laws_markText_l0_eq k m]
  kernel_rfl
theorem laws_markText_eq (k : Nat) (i1 : Int) : evF G_laws_markText (k + 2) fid_laws_markText [.one (Cell.int i1)] [] = laws_markText (k + 1) (k + 1) i1 :=
  Eq.trans (by kernel_rfl) (laws_markText_code k (k + 1) i1)
theorem run_laws_markText_of {i1 : Int} {r : Res} (k : Nat) (h : laws_markText (k + 1) (k + 1) i1 = some r) : run_laws_markText [.one (Cell.int i1)] [] = some r := lim_of ((laws_markText_eq k i1).trans h)
end Go.Ev
