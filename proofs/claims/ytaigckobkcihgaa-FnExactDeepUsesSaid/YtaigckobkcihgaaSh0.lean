/- What the evaluator says of the functions, each as a Lean function over cells. Printed by a program of this claim. Conditions: none. -/
import Derived.Test.YtaigckobkcihgaaEvPr
import Derived.KernelRfl
namespace Go.Ev
open Go Go.Proofs
set_option maxRecDepth 100000
set_option linter.unusedVariables false
set_option linter.unusedSimpArgs false
noncomputable def pl_laws_szStringS : List (Nat × Run) := []
noncomputable def G_laws_szStringS : Ctx := ctx tyTab fiTab pl_laws_szStringS
noncomputable def run_laws_szStringS : Run := lim G_laws_szStringS fid_laws_szStringS
theorem ok_laws_szStringS : FnOk Try.prog OkT fid_laws_szStringS run_laws_szStringS := lim_ok (l := pl_laws_szStringS) Try_mix tyTab_ok fiTab_ok okT .nil fid_laws_szStringS
noncomputable def laws_szStringS_l0 (k m : Nat) : Nat → Cell → Int → Int → Option Res
  | 0, _, _, _ => none
  | n + 1, c4, i5, i6 =>
    (lenC c4).bind fun n7 =>
    cond (decide (i6 < (n7 : Int)))
    ((idxA 1 (c4) i6).bind fun c8 =>
    (deref [] (c8)).bind fun p9 =>
    (cS p9.1 p9.2).bind fun s10 =>
    cond (decide ((IntKind.i64.wrap (i5 - (s10.size : Int))) < 0))
    (some ([.one (Cell.int (-1))], []))
    (laws_szStringS_l0 k m n (c4) (IntKind.i64.wrap (i5 - (s10.size : Int))) (IntKind.i64.wrap (i6 + 1))))
    (some ([.one (Cell.int i5)], []))
noncomputable def laws_szStringS (k m : Nat) (c1 : Cell) (i2 : Int) : Option Res :=
  (lenC c1).bind fun n3 =>
  cond (decide ((IntKind.i64.wrap (i2 - (n3 : Int))) < 0))
  (some ([.one (Cell.int (-1))], []))
  (laws_szStringS_l0 k m m (c1) (IntKind.i64.wrap (i2 - (n3 : Int))) 0)
noncomputable abbrev laws_szStringS_l0_B (k m : Nat) : (Ex → Fr → Option Res) → Fr → Option Res := evC G_laws_szStringS fi_laws_szStringS (evF G_laws_szStringS (k + 1)) m (sub [1, 1, 1, 0, 1, 2, 3] fi_laws_szStringS.code) none
noncomputable abbrev laws_szStringS_l0_K (k m : Nat) : Ex → Fr → Option Res := blockK 0 (seqK (evC G_laws_szStringS fi_laws_szStringS (evF G_laws_szStringS (k + 1)) m (sub [1, 1, 1, 1] fi_laws_szStringS.code) none) (retK G_laws_szStringS fi_laws_szStringS))
theorem laws_szStringS_l0_eq (k m : Nat) : ∀ (n : Nat) (c4 : Cell) (i5 : Int) (i6 : Int), loopK (some [0, 1, 5]) (laws_szStringS_l0_B k m) (laws_szStringS_l0_K k m) n ⟨fT 28 0 [(0, .av (.one (c4))), (1, .av (.one (Cell.int i5))), (5, .av (.one (Cell.int i6)))], fX 28 0 [], []⟩ = laws_szStringS_l0 (k + 1) m n c4 i5 i6 := by
  intro n
  induction n with
  | zero => intros; rfl
  | succ n ih =>
    intros
    simp only [laws_szStringS_l0, ← ih]
    kernel_rfl
theorem laws_szStringS_code (k m : Nat) (c1 : Cell) (i2 : Int) : evC G_laws_szStringS fi_laws_szStringS (evF G_laws_szStringS (k + 1)) m fi_laws_szStringS.code none (retK G_laws_szStringS fi_laws_szStringS) (enter fi_laws_szStringS [.one (c1), .one (Cell.int i2)] []) = laws_szStringS (k + 1) m c1 i2 := by
  simp only [laws_szStringS, ← laws_szStringS_l0_eq k m]
  kernel_rfl
theorem laws_szStringS_eq (k : Nat) (c1 : Cell) (i2 : Int) : evF G_laws_szStringS (k + 2) fid_laws_szStringS [.one (c1), .one (Cell.int i2)] [] = laws_szStringS (k + 1) (k + 1) c1 i2 :=
  Eq.trans (by kernel_rfl) (laws_szStringS_code k (k + 1) c1 i2)
theorem run_laws_szStringS_of {c1 : Cell} {i2 : Int} {r : Res} (k : Nat) (h : laws_szStringS (k + 1) (k + 1) c1 i2 = some r) : run_laws_szStringS [.one (c1), .one (Cell.int i2)] [] = some r := lim_of ((laws_szStringS_eq k c1 i2).trans h)
noncomputable def pl_laws_szNeed : List (Nat × Run) := []
noncomputable def G_laws_szNeed : Ctx := ctx tyTab fiTab pl_laws_szNeed
noncomputable def run_laws_szNeed : Run := lim G_laws_szNeed fid_laws_szNeed
theorem ok_laws_szNeed : FnOk Try.prog OkT fid_laws_szNeed run_laws_szNeed := lim_ok (l := pl_laws_szNeed) Try_mix tyTab_ok fiTab_ok okT .nil fid_laws_szNeed
noncomputable def laws_szNeed (k m : Nat) (s1 : ByteArray) (s2 : ByteArray) (i3 : Int) : Option Res :=
  cond (decide ((IntKind.i64.wrap (i3 - (s1.size : Int))) < 0))
  (some ([.one (Cell.int (-1))], []))
  (cond (decide ((IntKind.i64.wrap ((IntKind.i64.wrap (i3 - (s1.size : Int))) - (s2.size : Int))) < 0))
  (some ([.one (Cell.int (-1))], []))
  (some ([.one (Cell.int (IntKind.i64.wrap ((IntKind.i64.wrap (i3 - (s1.size : Int))) - (s2.size : Int))))], [])))
theorem laws_szNeed_code (k m : Nat) (s1 : ByteArray) (s2 : ByteArray) (i3 : Int) : evC G_laws_szNeed fi_laws_szNeed (evF G_laws_szNeed (k + 1)) m fi_laws_szNeed.code none (retK G_laws_szNeed fi_laws_szNeed) (enter fi_laws_szNeed [.agg [Cell.str s1, Cell.str s2], .one (Cell.int i3)] []) = laws_szNeed (k + 1) m s1 s2 i3 := by
  kernel_rfl
theorem laws_szNeed_eq (k : Nat) (s1 : ByteArray) (s2 : ByteArray) (i3 : Int) : evF G_laws_szNeed (k + 2) fid_laws_szNeed [.agg [Cell.str s1, Cell.str s2], .one (Cell.int i3)] [] = laws_szNeed (k + 1) (k + 1) s1 s2 i3 :=
  Eq.trans (by kernel_rfl) (laws_szNeed_code k (k + 1) s1 s2 i3)
theorem run_laws_szNeed_of {s1 : ByteArray} {s2 : ByteArray} {i3 : Int} {r : Res} (k : Nat) (h : laws_szNeed (k + 1) (k + 1) s1 s2 i3 = some r) : run_laws_szNeed [.agg [Cell.str s1, Cell.str s2], .one (Cell.int i3)] [] = some r := lim_of ((laws_szNeed_eq k s1 s2 i3).trans h)
noncomputable def pl_laws_szNeedS : List (Nat × Run) := [(fid_laws_szNeed, run_laws_szNeed)]
noncomputable def G_laws_szNeedS : Ctx := ctx tyTab fiTab pl_laws_szNeedS
noncomputable def run_laws_szNeedS : Run := lim G_laws_szNeedS fid_laws_szNeedS
theorem ok_laws_szNeedS : FnOk Try.prog OkT fid_laws_szNeedS run_laws_szNeedS := lim_ok (l := pl_laws_szNeedS) Try_mix tyTab_ok fiTab_ok okT (.cons ok_laws_szNeed .nil) fid_laws_szNeedS
noncomputable def laws_szNeedS_l0 (k m : Nat) : Nat → Cell → Int → Int → Option Res
  | 0, _, _, _ => none
  | n + 1, c4, i5, i6 =>
    (lenC c4).bind fun n7 =>
    cond (decide (i6 < (n7 : Int)))
    ((idxA 2 (c4) i6).bind fun c8 =>
    (deref [] (c8)).bind fun p9 =>
    (cS p9.1 p9.2).bind fun s10 =>
    (cS p9.1 (p9.2 + 1)).bind fun s11 =>
    (callS run_laws_szNeed [.agg [Cell.str s10, Cell.str s11], .one (Cell.int i5)] []).bind fun r12 =>
    cond (shapeOk rk_laws_szNeed r12)
    ((cI .i64 (cellsAt r12 0) 0).bind fun i13 =>
    cond (decide (i13 < 0))
    (some ([.one (Cell.int (-1))], []))
    (laws_szNeedS_l0 k m n (c4) i13 (IntKind.i64.wrap (i6 + 1))))
    none)
    (some ([.one (Cell.int i5)], []))
noncomputable def laws_szNeedS (k m : Nat) (c1 : Cell) (i2 : Int) : Option Res :=
  (lenC c1).bind fun n3 =>
  cond (decide ((IntKind.i64.wrap (i2 - (n3 : Int))) < 0))
  (some ([.one (Cell.int (-1))], []))
  (laws_szNeedS_l0 k m m (c1) (IntKind.i64.wrap (i2 - (n3 : Int))) 0)
noncomputable abbrev laws_szNeedS_l0_B (k m : Nat) : (Ex → Fr → Option Res) → Fr → Option Res := evC G_laws_szNeedS fi_laws_szNeedS (evF G_laws_szNeedS (k + 1)) m (sub [1, 1, 1, 0, 1, 2, 3] fi_laws_szNeedS.code) none
noncomputable abbrev laws_szNeedS_l0_K (k m : Nat) : Ex → Fr → Option Res := blockK 0 (seqK (evC G_laws_szNeedS fi_laws_szNeedS (evF G_laws_szNeedS (k + 1)) m (sub [1, 1, 1, 1] fi_laws_szNeedS.code) none) (retK G_laws_szNeedS fi_laws_szNeedS))
theorem laws_szNeedS_l0_eq (k m : Nat) : ∀ (n : Nat) (c4 : Cell) (i5 : Int) (i6 : Int), loopK (some [0, 1, 5]) (laws_szNeedS_l0_B k m) (laws_szNeedS_l0_K k m) n ⟨fT 27 0 [(0, .av (.one (c4))), (1, .av (.one (Cell.int i5))), (5, .av (.one (Cell.int i6)))], fX 27 0 [], []⟩ = laws_szNeedS_l0 (k + 1) m n c4 i5 i6 := by
  intro n
  induction n with
  | zero => intros; rfl
  | succ n ih =>
    intros
    simp only [laws_szNeedS_l0, ← ih]
    kernel_rfl
theorem laws_szNeedS_code (k m : Nat) (c1 : Cell) (i2 : Int) : evC G_laws_szNeedS fi_laws_szNeedS (evF G_laws_szNeedS (k + 1)) m fi_laws_szNeedS.code none (retK G_laws_szNeedS fi_laws_szNeedS) (enter fi_laws_szNeedS [.one (c1), .one (Cell.int i2)] []) = laws_szNeedS (k + 1) m c1 i2 := by
  simp only [laws_szNeedS, ← laws_szNeedS_l0_eq k m]
  kernel_rfl
theorem laws_szNeedS_eq (k : Nat) (c1 : Cell) (i2 : Int) : evF G_laws_szNeedS (k + 2) fid_laws_szNeedS [.one (c1), .one (Cell.int i2)] [] = laws_szNeedS (k + 1) (k + 1) c1 i2 :=
  Eq.trans (by kernel_rfl) (laws_szNeedS_code k (k + 1) c1 i2)
theorem run_laws_szNeedS_of {c1 : Cell} {i2 : Int} {r : Res} (k : Nat) (h : laws_szNeedS (k + 1) (k + 1) c1 i2 = some r) : run_laws_szNeedS [.one (c1), .one (Cell.int i2)] [] = some r := lim_of ((laws_szNeedS_eq k c1 i2).trans h)
noncomputable def pl_laws_szCmd : List (Nat × Run) := [(fid_laws_szStringS, run_laws_szStringS)]
noncomputable def G_laws_szCmd : Ctx := ctx tyTab fiTab pl_laws_szCmd
noncomputable def run_laws_szCmd : Run := lim G_laws_szCmd fid_laws_szCmd
theorem ok_laws_szCmd : FnOk Try.prog OkT fid_laws_szCmd run_laws_szCmd := lim_ok (l := pl_laws_szCmd) Try_mix tyTab_ok fiTab_ok okT (.cons ok_laws_szStringS .nil) fid_laws_szCmd
noncomputable def laws_szCmd (k m : Nat) (s1 : ByteArray) (c2 : Cell) (i3 : Int) : Option Res :=
  cond (decide ((IntKind.i64.wrap (i3 - (s1.size : Int))) < 0))
  (some ([.one (Cell.int (-1))], []))
  ((callS run_laws_szStringS [.one (c2), .one (Cell.int (IntKind.i64.wrap (i3 - (s1.size : Int))))] []).bind fun r4 =>
  cond (shapeOk rk_laws_szStringS r4)
  ((cI .i64 (cellsAt r4 0) 0).bind fun i5 =>
  cond (decide (i5 < 0))
  (some ([.one (Cell.int (-1))], []))
  (some ([.one (Cell.int i5)], [])))
  none)
theorem laws_szCmd_code (k m : Nat) (s1 : ByteArray) (c2 : Cell) (i3 : Int) : evC G_laws_szCmd fi_laws_szCmd (evF G_laws_szCmd (k + 1)) m fi_laws_szCmd.code none (retK G_laws_szCmd fi_laws_szCmd) (enter fi_laws_szCmd [.agg [Cell.str s1, c2], .one (Cell.int i3)] []) = laws_szCmd (k + 1) m s1 c2 i3 := by
  kernel_rfl
theorem laws_szCmd_eq (k : Nat) (s1 : ByteArray) (c2 : Cell) (i3 : Int) : evF G_laws_szCmd (k + 2) fid_laws_szCmd [.agg [Cell.str s1, c2], .one (Cell.int i3)] [] = laws_szCmd (k + 1) (k + 1) s1 c2 i3 :=
  Eq.trans (by kernel_rfl) (laws_szCmd_code k (k + 1) s1 c2 i3)
theorem run_laws_szCmd_of {s1 : ByteArray} {c2 : Cell} {i3 : Int} {r : Res} (k : Nat) (h : laws_szCmd (k + 1) (k + 1) s1 c2 i3 = some r) : run_laws_szCmd [.agg [Cell.str s1, c2], .one (Cell.int i3)] [] = some r := lim_of ((laws_szCmd_eq k s1 c2 i3).trans h)
noncomputable def pl_laws_szCmdS : List (Nat × Run) := [(fid_laws_szCmd, run_laws_szCmd)]
noncomputable def G_laws_szCmdS : Ctx := ctx tyTab fiTab pl_laws_szCmdS
noncomputable def run_laws_szCmdS : Run := lim G_laws_szCmdS fid_laws_szCmdS
theorem ok_laws_szCmdS : FnOk Try.prog OkT fid_laws_szCmdS run_laws_szCmdS := lim_ok (l := pl_laws_szCmdS) Try_mix tyTab_ok fiTab_ok okT (.cons ok_laws_szCmd .nil) fid_laws_szCmdS
noncomputable def laws_szCmdS_l0 (k m : Nat) : Nat → Cell → Int → Int → Option Res
  | 0, _, _, _ => none
  | n + 1, c4, i5, i6 =>
    (lenC c4).bind fun n7 =>
    cond (decide (i6 < (n7 : Int)))
    ((idxA 2 (c4) i6).bind fun c8 =>
    (deref [] (c8)).bind fun p9 =>
    (cS p9.1 p9.2).bind fun s10 =>
    (cC p9.1 (p9.2 + 1)).bind fun c11 =>
    (callS run_laws_szCmd [.agg [Cell.str s10, c11], .one (Cell.int i5)] []).bind fun r12 =>
    cond (shapeOk rk_laws_szCmd r12)
    ((cI .i64 (cellsAt r12 0) 0).bind fun i13 =>
    cond (decide (i13 < 0))
    (some ([.one (Cell.int (-1))], []))
    (laws_szCmdS_l0 k m n (c4) i13 (IntKind.i64.wrap (i6 + 1))))
    none)
    (some ([.one (Cell.int i5)], []))
noncomputable def laws_szCmdS (k m : Nat) (c1 : Cell) (i2 : Int) : Option Res :=
  (lenC c1).bind fun n3 =>
  cond (decide ((IntKind.i64.wrap (i2 - (n3 : Int))) < 0))
  (some ([.one (Cell.int (-1))], []))
  (laws_szCmdS_l0 k m m (c1) (IntKind.i64.wrap (i2 - (n3 : Int))) 0)
noncomputable abbrev laws_szCmdS_l0_B (k m : Nat) : (Ex → Fr → Option Res) → Fr → Option Res := evC G_laws_szCmdS fi_laws_szCmdS (evF G_laws_szCmdS (k + 1)) m (sub [1, 1, 1, 0, 1, 2, 3] fi_laws_szCmdS.code) none
noncomputable abbrev laws_szCmdS_l0_K (k m : Nat) : Ex → Fr → Option Res := blockK 0 (seqK (evC G_laws_szCmdS fi_laws_szCmdS (evF G_laws_szCmdS (k + 1)) m (sub [1, 1, 1, 1] fi_laws_szCmdS.code) none) (retK G_laws_szCmdS fi_laws_szCmdS))
theorem laws_szCmdS_l0_eq (k m : Nat) : ∀ (n : Nat) (c4 : Cell) (i5 : Int) (i6 : Int), loopK (some [0, 1, 5]) (laws_szCmdS_l0_B k m) (laws_szCmdS_l0_K k m) n ⟨fT 27 0 [(0, .av (.one (c4))), (1, .av (.one (Cell.int i5))), (5, .av (.one (Cell.int i6)))], fX 27 0 [], []⟩ = laws_szCmdS_l0 (k + 1) m n c4 i5 i6 := by
  intro n
  induction n with
  | zero => intros; rfl
  | succ n ih =>
    intros
    simp only [laws_szCmdS_l0, ← ih]
    kernel_rfl
theorem laws_szCmdS_code (k m : Nat) (c1 : Cell) (i2 : Int) : evC G_laws_szCmdS fi_laws_szCmdS (evF G_laws_szCmdS (k + 1)) m fi_laws_szCmdS.code none (retK G_laws_szCmdS fi_laws_szCmdS) (enter fi_laws_szCmdS [.one (c1), .one (Cell.int i2)] []) = laws_szCmdS (k + 1) m c1 i2 := by
  simp only [laws_szCmdS, ← laws_szCmdS_l0_eq k m]
  kernel_rfl
theorem laws_szCmdS_eq (k : Nat) (c1 : Cell) (i2 : Int) : evF G_laws_szCmdS (k + 2) fid_laws_szCmdS [.one (c1), .one (Cell.int i2)] [] = laws_szCmdS (k + 1) (k + 1) c1 i2 :=
  Eq.trans (by kernel_rfl) (laws_szCmdS_code k (k + 1) c1 i2)
theorem run_laws_szCmdS_of {c1 : Cell} {i2 : Int} {r : Res} (k : Nat) (h : laws_szCmdS (k + 1) (k + 1) c1 i2 = some r) : run_laws_szCmdS [.one (c1), .one (Cell.int i2)] [] = some r := lim_of ((laws_szCmdS_eq k c1 i2).trans h)
noncomputable def pl_laws_szPack : List (Nat × Run) := [(fid_laws_szStringS, run_laws_szStringS), (fid_laws_szNeedS, run_laws_szNeedS), (fid_laws_szCmdS, run_laws_szCmdS)]
noncomputable def G_laws_szPack : Ctx := ctx tyTab fiTab pl_laws_szPack
noncomputable def run_laws_szPack : Run := lim G_laws_szPack fid_laws_szPack
theorem ok_laws_szPack : FnOk Try.prog OkT fid_laws_szPack run_laws_szPack := lim_ok (l := pl_laws_szPack) Try_mix tyTab_ok fiTab_ok okT (.cons ok_laws_szStringS (.cons ok_laws_szNeedS (.cons ok_laws_szCmdS .nil))) fid_laws_szPack
noncomputable def laws_szPack (k m : Nat) (s1 : ByteArray) (c2 : Cell) (c3 : Cell) (c4 : Cell) (i5 : Int) : Option Res :=
  cond (decide ((IntKind.i64.wrap (i5 - (s1.size : Int))) < 0))
  (some ([.one (Cell.int (-1))], []))
  ((callS run_laws_szStringS [.one (c2), .one (Cell.int (IntKind.i64.wrap (i5 - (s1.size : Int))))] []).bind fun r6 =>
  cond (shapeOk rk_laws_szStringS r6)
  ((cI .i64 (cellsAt r6 0) 0).bind fun i7 =>
  cond (decide (i7 < 0))
  (some ([.one (Cell.int (-1))], []))
  ((callS run_laws_szNeedS [.one (c3), .one (Cell.int i7)] []).bind fun r8 =>
  cond (shapeOk rk_laws_szNeedS r8)
  ((cI .i64 (cellsAt r8 0) 0).bind fun i9 =>
  cond (decide (i9 < 0))
  (some ([.one (Cell.int (-1))], []))
  ((callS run_laws_szCmdS [.one (c4), .one (Cell.int i9)] []).bind fun r10 =>
  cond (shapeOk rk_laws_szCmdS r10)
  ((cI .i64 (cellsAt r10 0) 0).bind fun i11 =>
  cond (decide (i11 < 0))
  (some ([.one (Cell.int (-1))], []))
  (some ([.one (Cell.int i11)], [])))
  none))
  none))
  none)
theorem laws_szPack_code (k m : Nat) (s1 : ByteArray) (c2 : Cell) (c3 : Cell) (c4 : Cell) (i5 : Int) : evC G_laws_szPack fi_laws_szPack (evF G_laws_szPack (k + 1)) m fi_laws_szPack.code none (retK G_laws_szPack fi_laws_szPack) (enter fi_laws_szPack [.agg [Cell.str s1, c2, c3, c4], .one (Cell.int i5)] []) = laws_szPack (k + 1) m s1 c2 c3 c4 i5 := by
  kernel_rfl
theorem laws_szPack_eq (k : Nat) (s1 : ByteArray) (c2 : Cell) (c3 : Cell) (c4 : Cell) (i5 : Int) : evF G_laws_szPack (k + 2) fid_laws_szPack [.agg [Cell.str s1, c2, c3, c4], .one (Cell.int i5)] [] = laws_szPack (k + 1) (k + 1) s1 c2 c3 c4 i5 :=
  Eq.trans (by kernel_rfl) (laws_szPack_code k (k + 1) s1 c2 c3 c4 i5)
theorem run_laws_szPack_of {s1 : ByteArray} {c2 : Cell} {c3 : Cell} {c4 : Cell} {i5 : Int} {r : Res} (k : Nat) (h : laws_szPack (k + 1) (k + 1) s1 c2 c3 c4 i5 = some r) : run_laws_szPack [.agg [Cell.str s1, c2, c3, c4], .one (Cell.int i5)] [] = some r := lim_of ((laws_szPack_eq k s1 c2 c3 c4 i5).trans h)
noncomputable def pl_laws_szPackS : List (Nat × Run) := [(fid_laws_szPack, run_laws_szPack)]
noncomputable def G_laws_szPackS : Ctx := ctx tyTab fiTab pl_laws_szPackS
noncomputable def run_laws_szPackS : Run := lim G_laws_szPackS fid_laws_szPackS
theorem ok_laws_szPackS : FnOk Try.prog OkT fid_laws_szPackS run_laws_szPackS := lim_ok (l := pl_laws_szPackS) Try_mix tyTab_ok fiTab_ok okT (.cons ok_laws_szPack .nil) fid_laws_szPackS
noncomputable def laws_szPackS_l0 (k m : Nat) : Nat → Cell → Int → Int → Option Res
  | 0, _, _, _ => none
  | n + 1, c4, i5, i6 =>
    (lenC c4).bind fun n7 =>
    cond (decide (i6 < (n7 : Int)))
    ((idxA 4 (c4) i6).bind fun c8 =>
    (deref [] (c8)).bind fun p9 =>
    (cS p9.1 p9.2).bind fun s10 =>
    (cC p9.1 (p9.2 + 1)).bind fun c11 =>
    (cC p9.1 ((p9.2 + 1) + 1)).bind fun c12 =>
    (cC p9.1 (((p9.2 + 1) + 1) + 1)).bind fun c13 =>
    (callS run_laws_szPack [.agg [Cell.str s10, c11, c12, c13], .one (Cell.int i5)] []).bind fun r14 =>
    cond (shapeOk rk_laws_szPack r14)
    ((cI .i64 (cellsAt r14 0) 0).bind fun i15 =>
    cond (decide (i15 < 0))
    (some ([.one (Cell.int (-1))], []))
    (laws_szPackS_l0 k m n (c4) i15 (IntKind.i64.wrap (i6 + 1))))
    none)
    (some ([.one (Cell.int i5)], []))
noncomputable def laws_szPackS (k m : Nat) (c1 : Cell) (i2 : Int) : Option Res :=
  (lenC c1).bind fun n3 =>
  cond (decide ((IntKind.i64.wrap (i2 - (n3 : Int))) < 0))
  (some ([.one (Cell.int (-1))], []))
  (laws_szPackS_l0 k m m (c1) (IntKind.i64.wrap (i2 - (n3 : Int))) 0)
noncomputable abbrev laws_szPackS_l0_B (k m : Nat) : (Ex → Fr → Option Res) → Fr → Option Res := evC G_laws_szPackS fi_laws_szPackS (evF G_laws_szPackS (k + 1)) m (sub [1, 1, 1, 0, 1, 2, 3] fi_laws_szPackS.code) none
noncomputable abbrev laws_szPackS_l0_K (k m : Nat) : Ex → Fr → Option Res := blockK 0 (seqK (evC G_laws_szPackS fi_laws_szPackS (evF G_laws_szPackS (k + 1)) m (sub [1, 1, 1, 1] fi_laws_szPackS.code) none) (retK G_laws_szPackS fi_laws_szPackS))
theorem laws_szPackS_l0_eq (k m : Nat) : ∀ (n : Nat) (c4 : Cell) (i5 : Int) (i6 : Int), loopK (some [0, 1, 5]) (laws_szPackS_l0_B k m) (laws_szPackS_l0_K k m) n ⟨fT 27 0 [(0, .av (.one (c4))), (1, .av (.one (Cell.int i5))), (5, .av (.one (Cell.int i6)))], fX 27 0 [], []⟩ = laws_szPackS_l0 (k + 1) m n c4 i5 i6 := by
  intro n
  induction n with
  | zero => intros; rfl
  | succ n ih =>
    intros
    simp only [laws_szPackS_l0, ← ih]
    kernel_rfl
theorem laws_szPackS_code (k m : Nat) (c1 : Cell) (i2 : Int) : evC G_laws_szPackS fi_laws_szPackS (evF G_laws_szPackS (k + 1)) m fi_laws_szPackS.code none (retK G_laws_szPackS fi_laws_szPackS) (enter fi_laws_szPackS [.one (c1), .one (Cell.int i2)] []) = laws_szPackS (k + 1) m c1 i2 := by
  simp only [laws_szPackS, ← laws_szPackS_l0_eq k m]
  kernel_rfl
theorem laws_szPackS_eq (k : Nat) (c1 : Cell) (i2 : Int) : evF G_laws_szPackS (k + 2) fid_laws_szPackS [.one (c1), .one (Cell.int i2)] [] = laws_szPackS (k + 1) (k + 1) c1 i2 :=
  Eq.trans (by kernel_rfl) (laws_szPackS_code k (k + 1) c1 i2)
theorem run_laws_szPackS_of {c1 : Cell} {i2 : Int} {r : Res} (k : Nat) (h : laws_szPackS (k + 1) (k + 1) c1 i2 = some r) : run_laws_szPackS [.one (c1), .one (Cell.int i2)] [] = some r := lim_of ((laws_szPackS_eq k c1 i2).trans h)
noncomputable def pl_spec_l1Has : List (Nat × Run) := []
noncomputable def G_spec_l1Has : Ctx := ctx tyTab fiTab pl_spec_l1Has
noncomputable def run_spec_l1Has : Run := lim G_spec_l1Has fid_spec_l1Has
theorem ok_spec_l1Has : FnOk Try.prog OkT fid_spec_l1Has run_spec_l1Has := lim_ok (l := pl_spec_l1Has) Try_mix tyTab_ok fiTab_ok okT .nil fid_spec_l1Has
noncomputable def spec_l1Has_l0 (k m : Nat) : Nat → Cell → ByteArray → Int → Option Res
  | 0, _, _, _ => none
  | n + 1, c3, s4, i5 =>
    (lenC c3).bind fun n6 =>
    cond (decide (i5 < (n6 : Int)))
    ((idxA 1 (c3) i5).bind fun c7 =>
    (deref [] (c7)).bind fun p8 =>
    (cS p8.1 p8.2).bind fun s9 =>
    cond (s9.toList == s4.toList)
    (some ([.one (Cell.bool true)], []))
    (spec_l1Has_l0 k m n (c3) s4 (IntKind.i64.wrap (i5 + 1))))
    (some ([.one (Cell.bool false)], []))
noncomputable def spec_l1Has (k m : Nat) (c1 : Cell) (s2 : ByteArray) : Option Res :=
  spec_l1Has_l0 k m m (c1) s2 0
noncomputable abbrev spec_l1Has_l0_B (k m : Nat) : (Ex → Fr → Option Res) → Fr → Option Res := evC G_spec_l1Has fi_spec_l1Has (evF G_spec_l1Has (k + 1)) m (sub [1, 0, 1, 2, 3] fi_spec_l1Has.code) none
noncomputable abbrev spec_l1Has_l0_K (k m : Nat) : Ex → Fr → Option Res := blockK 0 (seqK (evC G_spec_l1Has fi_spec_l1Has (evF G_spec_l1Has (k + 1)) m (sub [1, 1] fi_spec_l1Has.code) none) (retK G_spec_l1Has fi_spec_l1Has))
theorem spec_l1Has_l0_eq (k m : Nat) : ∀ (n : Nat) (c3 : Cell) (s4 : ByteArray) (i5 : Int), loopK (some [0, 1, 5]) (spec_l1Has_l0_B k m) (spec_l1Has_l0_K k m) n ⟨fT 18 0 [(0, .av (.one (c3))), (1, .av (.one (Cell.str s4))), (5, .av (.one (Cell.int i5)))], fX 18 0 [], []⟩ = spec_l1Has_l0 (k + 1) m n c3 s4 i5 := by
  intro n
  induction n with
  | zero => intros; rfl
  | succ n ih =>
    intros
    simp only [spec_l1Has_l0, ← ih]
    kernel_rfl
theorem spec_l1Has_code (k m : Nat) (c1 : Cell) (s2 : ByteArray) : evC G_spec_l1Has fi_spec_l1Has (evF G_spec_l1Has (k + 1)) m fi_spec_l1Has.code none (retK G_spec_l1Has fi_spec_l1Has) (enter fi_spec_l1Has [.one (c1), .one (Cell.str s2)] []) = spec_l1Has (k + 1) m c1 s2 := by
  simp only [spec_l1Has, ← spec_l1Has_l0_eq k m]
  kernel_rfl
theorem spec_l1Has_eq (k : Nat) (c1 : Cell) (s2 : ByteArray) : evF G_spec_l1Has (k + 2) fid_spec_l1Has [.one (c1), .one (Cell.str s2)] [] = spec_l1Has (k + 1) (k + 1) c1 s2 :=
  Eq.trans (by kernel_rfl) (spec_l1Has_code k (k + 1) c1 s2)
theorem run_spec_l1Has_of {c1 : Cell} {s2 : ByteArray} {r : Res} (k : Nat) (h : spec_l1Has (k + 1) (k + 1) c1 s2 = some r) : run_spec_l1Has [.one (c1), .one (Cell.str s2)] [] = some r := lim_of ((spec_l1Has_eq k c1 s2).trans h)
noncomputable def pl_spec_Sorted : List (Nat × Run) := [(fid_spec_l1Has, run_spec_l1Has)]
noncomputable def G_spec_Sorted : Ctx := ctx tyTab fiTab pl_spec_Sorted
noncomputable def run_spec_Sorted : Run := lim G_spec_Sorted fid_spec_Sorted
theorem ok_spec_Sorted : FnOk Try.prog OkT fid_spec_Sorted run_spec_Sorted := lim_ok (l := pl_spec_Sorted) Try_mix tyTab_ok fiTab_ok okT (.cons ok_spec_l1Has .nil) fid_spec_Sorted
noncomputable def spec_Sorted_l1 (k m : Nat) (b_l0 : Cell → Cell → Int → List Entry → Option Res) : Nat → Cell → Cell → Int → Int → List Entry → Option Res
  | 0, _, _, _, _, _ => none
  | n + 1, c17, c18, i19, i20, H21 =>
    cond (decide (i20 > 0))
    ((idxA 1 (c18) (IntKind.i64.wrap (i20 - 1))).bind fun c22 =>
    (deref H21 (c22)).bind fun p23 =>
    (cS p23.1 p23.2).bind fun s24 =>
    (idxA 1 (c17) i19).bind fun c25 =>
    (deref H21 (c25)).bind fun p26 =>
    (cS p26.1 p26.2).bind fun s27 =>
    cond (!(Op.bytesLess s24.toList s27.toList || s24.toList == s27.toList))
    ((idxA 1 (c18) (IntKind.i64.wrap (i20 - 1))).bind fun c28 =>
    (deref H21 (c28)).bind fun p29 =>
    (cS p29.1 p29.2).bind fun s30 =>
    (idxA 1 (c18) i20).bind fun c31 =>
    (hStore H21 (c31) [Cell.str s30]).bind fun h32 =>
    spec_Sorted_l1 k m b_l0 n (c17) (c18) i19 (IntKind.i64.wrap (i20 - 1)) h32)
    ((idxA 1 (c17) i19).bind fun c33 =>
    (deref H21 (c33)).bind fun p34 =>
    (cS p34.1 p34.2).bind fun s35 =>
    (idxA 1 (c18) i20).bind fun c36 =>
    (hStore H21 (c36) [Cell.str s35]).bind fun h37 =>
    b_l0 (c17) (c18) (IntKind.i64.wrap (i19 + 1)) h37))
    ((idxA 1 (c17) i19).bind fun c38 =>
    (deref H21 (c38)).bind fun p39 =>
    (cS p39.1 p39.2).bind fun s40 =>
    (idxA 1 (c18) i20).bind fun c41 =>
    (hStore H21 (c41) [Cell.str s40]).bind fun h42 =>
    b_l0 (c17) (c18) (IntKind.i64.wrap (i19 + 1)) h42)
noncomputable def spec_Sorted_l0 (k m : Nat) : Nat → Cell → Cell → Int → List Entry → Option Res
  | 0, _, _, _, _ => none
  | n + 1, c2, c3, i4, H5 =>
    (lenC c2).bind fun n6 =>
    cond (decide (i4 < (n6 : Int)))
    ((idxA 1 (c2) i4).bind fun c7 =>
    (deref H5 (c7)).bind fun p8 =>
    (cS p8.1 p8.2).bind fun s9 =>
    (callS run_spec_l1Has [.one (c3), .one (Cell.str s9)] H5).bind fun r10 =>
    cond (shapeOk rk_spec_l1Has r10)
    ((cB (cellsAt r10 0) 0).bind fun b11 =>
    cond b11
    (spec_Sorted_l0 k m n (c2) (c3) (IntKind.i64.wrap (i4 + 1)) H5)
    ((idxA 1 (c2) i4).bind fun c12 =>
    (deref H5 (c12)).bind fun p13 =>
    (cS p13.1 p13.2).bind fun s14 =>
    (app H5 1 16 (c3) [[Cell.str s14]]).bind fun p15 =>
    (lenC p15.1).bind fun n16 =>
    spec_Sorted_l1 k m (spec_Sorted_l0 k m n) m (c2) (p15.1) i4 (IntKind.i64.wrap ((n16 : Int) - 1)) p15.2))
    none)
    (some ([.one (c3)], H5))
noncomputable def spec_Sorted (k m : Nat) (c1 : Cell) : Option Res :=
  spec_Sorted_l0 k m m (c1) (.lst true 1 []) 0 []
noncomputable abbrev spec_Sorted_l0_B (k m : Nat) : (Ex → Fr → Option Res) → Fr → Option Res := evC G_spec_Sorted fi_spec_Sorted (evF G_spec_Sorted (k + 1)) m (sub [1, 1, 0, 1, 2, 3] fi_spec_Sorted.code) none
noncomputable abbrev spec_Sorted_l0_K (k m : Nat) : Ex → Fr → Option Res := blockK 0 (seqK (evC G_spec_Sorted fi_spec_Sorted (evF G_spec_Sorted (k + 1)) m (sub [1, 1, 1] fi_spec_Sorted.code) none) (retK G_spec_Sorted fi_spec_Sorted))
noncomputable abbrev spec_Sorted_l1_B (k m : Nat) : (Ex → Fr → Option Res) → Fr → Option Res := evC G_spec_Sorted fi_spec_Sorted (evF G_spec_Sorted (k + 1)) m (sub [1, 1, 0, 1, 2, 3, 1, 0, 2, 1, 1, 1, 0, 2, 3] fi_spec_Sorted.code) none
noncomputable abbrev spec_Sorted_l1_K (k m : Nat) (n_l0 : Nat) : Ex → Fr → Option Res := blockK 2 (seqK (evC G_spec_Sorted fi_spec_Sorted (evF G_spec_Sorted (k + 1)) m (sub [1, 1, 0, 1, 2, 3, 1, 0, 2, 1, 1, 1, 1] fi_spec_Sorted.code) none) (blockK 1 (seqK (evC G_spec_Sorted fi_spec_Sorted (evF G_spec_Sorted (k + 1)) m (sub [1, 1, 0, 1, 2, 3, 1, 1] fi_spec_Sorted.code) none) (loopE (fun s => loopK (some [0, 3, 4]) (spec_Sorted_l0_B k m) (spec_Sorted_l0_K k m) n_l0 (keepS (some [0, 3, 4]) s)) (spec_Sorted_l0_K k m)))))
theorem spec_Sorted_l1_eq (k m : Nat) (b_l0 : Cell → Cell → Int → List Entry → Option Res) (n_l0 : Nat) (h_l0 : ∀ (c2 : Cell) (c3 : Cell) (i4 : Int) (H5 : List Entry), loopK (some [0, 3, 4]) (spec_Sorted_l0_B k m) (spec_Sorted_l0_K k m) n_l0 ⟨fT 61 0 [(0, .av (.one (c2))), (3, .av (.one (c3))), (4, .av (.one (Cell.int i4)))], fX 61 0 [], H5⟩ = b_l0 c2 c3 i4 H5) : ∀ (n : Nat) (c17 : Cell) (c18 : Cell) (i19 : Int) (i20 : Int) (H21 : List Entry), loopK (some [0, 3, 4, 5]) (spec_Sorted_l1_B k m) (spec_Sorted_l1_K k m n_l0) n ⟨fT 61 0 [(0, .av (.one (c17))), (3, .av (.one (c18))), (4, .av (.one (Cell.int i19))), (5, .av (.one (Cell.int i20)))], fX 61 0 [], H21⟩ = spec_Sorted_l1 (k + 1) m b_l0 n c17 c18 i19 i20 H21 := by
  intro n
  induction n with
  | zero => intros; rfl
  | succ n ih =>
    intros
    simp only [spec_Sorted_l1, ← h_l0, ← ih]
    kernel_rfl
theorem spec_Sorted_l0_eq (k m : Nat) : ∀ (n : Nat) (c2 : Cell) (c3 : Cell) (i4 : Int) (H5 : List Entry), loopK (some [0, 3, 4]) (spec_Sorted_l0_B k m) (spec_Sorted_l0_K k m) n ⟨fT 61 0 [(0, .av (.one (c2))), (3, .av (.one (c3))), (4, .av (.one (Cell.int i4)))], fX 61 0 [], H5⟩ = spec_Sorted_l0 (k + 1) m n c2 c3 i4 H5 := by
  intro n
  induction n with
  | zero => intros; rfl
  | succ n ih =>
    intros
    simp only [spec_Sorted_l0, ← spec_Sorted_l1_eq k m _ _ (ih), ← ih]
    kernel_rfl
theorem spec_Sorted_code (k m : Nat) (c1 : Cell) : evC G_spec_Sorted fi_spec_Sorted (evF G_spec_Sorted (k + 1)) m fi_spec_Sorted.code none (retK G_spec_Sorted fi_spec_Sorted) (enter fi_spec_Sorted [.one (c1)] []) = spec_Sorted (k + 1) m c1 := by
  simp only [spec_Sorted, ← spec_Sorted_l0_eq k m]
  kernel_rfl
theorem spec_Sorted_eq (k : Nat) (c1 : Cell) : evF G_spec_Sorted (k + 2) fid_spec_Sorted [.one (c1)] [] = spec_Sorted (k + 1) (k + 1) c1 :=
  Eq.trans (by kernel_rfl) (spec_Sorted_code k (k + 1) c1)
theorem run_spec_Sorted_of {c1 : Cell} {r : Res} (k : Nat) (h : spec_Sorted (k + 1) (k + 1) c1 = some r) : run_spec_Sorted [.one (c1)] [] = some r := lim_of ((spec_Sorted_eq k c1).trans h)
noncomputable def pl_spec_l11At : List (Nat × Run) := []
noncomputable def G_spec_l11At : Ctx := ctx tyTab fiTab pl_spec_l11At
noncomputable def run_spec_l11At : Run := lim G_spec_l11At fid_spec_l11At
theorem ok_spec_l11At : FnOk Try.prog OkT fid_spec_l11At run_spec_l11At := lim_ok (l := pl_spec_l11At) Try_mix tyTab_ok fiTab_ok okT .nil fid_spec_l11At
noncomputable def spec_l11At_l0 (k m : Nat) : Nat → ByteArray → Int → Cell → Cell → Option Res
  | 0, _, _, _, _ => none
  | n + 1, s4, i5, c6, c7 =>
    (lenC c6).bind fun n8 =>
    cond (decide (i5 < (n8 : Int)))
    ((idxA 1 (c6) i5).bind fun c9 =>
    (deref [] (c9)).bind fun p10 =>
    (cS p10.1 p10.2).bind fun s11 =>
    cond (s11.toList == s4.toList)
    (some ([.one (Cell.int i5)], []))
    (spec_l11At_l0 k m n s4 (IntKind.i64.wrap (i5 + 1)) (c6) (c7)))
    (some ([.one (Cell.int (-1))], []))
noncomputable def spec_l11At (k m : Nat) (c1 : Cell) (c2 : Cell) (s3 : ByteArray) : Option Res :=
  spec_l11At_l0 k m m s3 0 (c1) (c2)
noncomputable abbrev spec_l11At_l0_B (k m : Nat) : (Ex → Fr → Option Res) → Fr → Option Res := evC G_spec_l11At fi_spec_l11At (evF G_spec_l11At (k + 1)) m (sub [1, 0, 1, 2, 3] fi_spec_l11At.code) none
noncomputable abbrev spec_l11At_l0_K (k m : Nat) : Ex → Fr → Option Res := blockK 0 (seqK (evC G_spec_l11At fi_spec_l11At (evF G_spec_l11At (k + 1)) m (sub [1, 1] fi_spec_l11At.code) none) (retK G_spec_l11At fi_spec_l11At))
theorem spec_l11At_l0_eq (k m : Nat) : ∀ (n : Nat) (s4 : ByteArray) (i5 : Int) (c6 : Cell) (c7 : Cell), loopK (some [1, 2, 5]) (spec_l11At_l0_B k m) (spec_l11At_l0_K k m) n ⟨fT 21 0 [(1, .av (.one (Cell.str s4))), (2, .loc 2 0), (5, .av (.one (Cell.int i5)))], fX 21 0 [(2, [c6, c7])], []⟩ = spec_l11At_l0 (k + 1) m n s4 i5 c6 c7 := by
  intro n
  induction n with
  | zero => intros; rfl
  | succ n ih =>
    intros
    simp only [spec_l11At_l0, ← ih]
    kernel_rfl
theorem spec_l11At_code (k m : Nat) (c1 : Cell) (c2 : Cell) (s3 : ByteArray) : evC G_spec_l11At fi_spec_l11At (evF G_spec_l11At (k + 1)) m fi_spec_l11At.code none (retK G_spec_l11At fi_spec_l11At) (enter fi_spec_l11At [.agg [c1, c2], .one (Cell.str s3)] []) = spec_l11At (k + 1) m c1 c2 s3 := by
  simp only [spec_l11At, ← spec_l11At_l0_eq k m]
  kernel_rfl
theorem spec_l11At_eq (k : Nat) (c1 : Cell) (c2 : Cell) (s3 : ByteArray) : evF G_spec_l11At (k + 2) fid_spec_l11At [.agg [c1, c2], .one (Cell.str s3)] [] = spec_l11At (k + 1) (k + 1) c1 c2 s3 :=
  Eq.trans (by kernel_rfl) (spec_l11At_code k (k + 1) c1 c2 s3)
theorem run_spec_l11At_of {c1 : Cell} {c2 : Cell} {s3 : ByteArray} {r : Res} (k : Nat) (h : spec_l11At (k + 1) (k + 1) c1 c2 s3 = some r) : run_spec_l11At [.agg [c1, c2], .one (Cell.str s3)] [] = some r := lim_of ((spec_l11At_eq k c1 c2 s3).trans h)
noncomputable def pl_spec_l11Next : List (Nat × Run) := [(fid_spec_l11At, run_spec_l11At)]
noncomputable def G_spec_l11Next : Ctx := ctx tyTab fiTab pl_spec_l11Next
noncomputable def run_spec_l11Next : Run := lim G_spec_l11Next fid_spec_l11Next
theorem ok_spec_l11Next : FnOk Try.prog OkT fid_spec_l11Next run_spec_l11Next := lim_ok (l := pl_spec_l11Next) Try_mix tyTab_ok fiTab_ok okT (.cons ok_spec_l11At .nil) fid_spec_l11Next
noncomputable def spec_l11Next (k m : Nat) (c1 : Cell) (c2 : Cell) (s3 : ByteArray) : Option Res :=
  (callS run_spec_l11At [.agg [c1, c2], .one (Cell.str s3)] []).bind fun r4 =>
  cond (shapeOk rk_spec_l11At r4)
  ((cI .i64 (cellsAt r4 0) 0).bind fun i5 =>
  cond (decide (i5 < 0))
  (some ([.one (.lst true 1 [])], []))
  ((idxA 1 (c2) i5).bind fun c6 =>
  (deref [] (c6)).bind fun p7 =>
  (cC p7.1 p7.2).bind fun c8 =>
  some ([.one (c8)], [])))
  none
theorem spec_l11Next_code (k m : Nat) (c1 : Cell) (c2 : Cell) (s3 : ByteArray) : evC G_spec_l11Next fi_spec_l11Next (evF G_spec_l11Next (k + 1)) m fi_spec_l11Next.code none (retK G_spec_l11Next fi_spec_l11Next) (enter fi_spec_l11Next [.agg [c1, c2], .one (Cell.str s3)] []) = spec_l11Next (k + 1) m c1 c2 s3 := by
  kernel_rfl
theorem spec_l11Next_eq (k : Nat) (c1 : Cell) (c2 : Cell) (s3 : ByteArray) : evF G_spec_l11Next (k + 2) fid_spec_l11Next [.agg [c1, c2], .one (Cell.str s3)] [] = spec_l11Next (k + 1) (k + 1) c1 c2 s3 :=
  Eq.trans (by kernel_rfl) (spec_l11Next_code k (k + 1) c1 c2 s3)
theorem run_spec_l11Next_of {c1 : Cell} {c2 : Cell} {s3 : ByteArray} {r : Res} (k : Nat) (h : spec_l11Next (k + 1) (k + 1) c1 c2 s3 = some r) : run_spec_l11Next [.agg [c1, c2], .one (Cell.str s3)] [] = some r := lim_of ((spec_l11Next_eq k c1 c2 s3).trans h)
noncomputable def pl_spec_l11Reach : List (Nat × Run) := [(fid_spec_Sorted, run_spec_Sorted), (fid_spec_l11Next, run_spec_l11Next), (fid_spec_l1Has, run_spec_l1Has)]
noncomputable def G_spec_l11Reach : Ctx := ctx tyTab fiTab pl_spec_l11Reach
noncomputable def run_spec_l11Reach : Run := lim G_spec_l11Reach fid_spec_l11Reach
theorem ok_spec_l11Reach : FnOk Try.prog OkT fid_spec_l11Reach run_spec_l11Reach := lim_ok (l := pl_spec_l11Reach) Try_mix tyTab_ok fiTab_ok okT (.cons ok_spec_Sorted (.cons ok_spec_l11Next (.cons ok_spec_l1Has .nil))) fid_spec_l11Reach
noncomputable def spec_l11Reach_l0 (k m : Nat) : Nat → Cell → Cell → Cell → Cell → List Entry → Option Res
  | 0, _, _, _, _, _ => none
  | n + 1, c8, c9, c10, c11, H12 =>
    (lenC c9).bind fun n13 =>
    cond (decide ((n13 : Int) > 0))
    ((idxA 1 (c9) 0).bind fun c14 =>
    (deref H12 (c14)).bind fun p15 =>
    (cS p15.1 p15.2).bind fun s16 =>
    (slcC 1 (c9) 1 none none).bind fun c17 =>
    (srcRows H12 1 c17).bind fun r18 =>
    (app H12 1 16 (.lst true 1 []) r18).bind fun p19 =>
    (callS run_spec_l1Has [.one (c8), .one (Cell.str s16)] p19.2).bind fun r20 =>
    cond (shapeOk rk_spec_l1Has r20)
    ((cB (cellsAt r20 0) 0).bind fun b21 =>
    cond (!b21)
    ((app p19.2 1 16 (c8) [[Cell.str s16]]).bind fun p22 =>
    (callL run_spec_l11Next [.agg [c10, c11], .one (Cell.str s16)] p22.2).bind fun r23 =>
    cond (shapeOk rk_spec_l11Next r23.1)
    ((cC (cellsAt r23.1 0) 0).bind fun c24 =>
    (srcRows r23.2 1 c24).bind fun r25 =>
    (app r23.2 1 16 (p19.1) r25).bind fun p26 =>
    spec_l11Reach_l0 k m n (p22.1) (p26.1) (c10) (c11) p26.2)
    none)
    (spec_l11Reach_l0 k m n (c8) (p19.1) (c10) (c11) p19.2))
    none)
    ((callL run_spec_Sorted [.one (c8)] H12).bind fun r27 =>
    cond (shapeOk rk_spec_Sorted r27.1)
    ((cC (cellsAt r27.1 0) 0).bind fun c28 =>
    some ([.one (c28)], r27.2))
    none)
noncomputable def spec_l11Reach (k m : Nat) (c1 : Cell) (c2 : Cell) (s3 : ByteArray) : Option Res :=
  (callL run_spec_l11Next [.agg [c1, c2], .one (Cell.str s3)] []).bind fun r4 =>
  cond (shapeOk rk_spec_l11Next r4.1)
  ((cC (cellsAt r4.1 0) 0).bind fun c5 =>
  (srcRows r4.2 1 c5).bind fun r6 =>
  (app r4.2 1 16 (.lst true 1 []) r6).bind fun p7 =>
  spec_l11Reach_l0 k m m (.lst true 1 []) (p7.1) (c1) (c2) p7.2)
  none
noncomputable abbrev spec_l11Reach_l0_B (k m : Nat) : (Ex → Fr → Option Res) → Fr → Option Res := evC G_spec_l11Reach fi_spec_l11Reach (evF G_spec_l11Reach (k + 1)) m (sub [1, 1, 1, 0, 2, 3] fi_spec_l11Reach.code) none
noncomputable abbrev spec_l11Reach_l0_K (k m : Nat) : Ex → Fr → Option Res := blockK 0 (seqK (evC G_spec_l11Reach fi_spec_l11Reach (evF G_spec_l11Reach (k + 1)) m (sub [1, 1, 1, 1] fi_spec_l11Reach.code) none) (retK G_spec_l11Reach fi_spec_l11Reach))
theorem spec_l11Reach_l0_eq (k m : Nat) : ∀ (n : Nat) (c8 : Cell) (c9 : Cell) (c10 : Cell) (c11 : Cell) (H12 : List Entry), loopK (some [2, 5, 6]) (spec_l11Reach_l0_B k m) (spec_l11Reach_l0_K k m) n ⟨fT 39 0 [(2, .loc 2 0), (5, .av (.one (c8))), (6, .av (.one (c9)))], fX 39 0 [(2, [c10, c11])], H12⟩ = spec_l11Reach_l0 (k + 1) m n c8 c9 c10 c11 H12 := by
  intro n
  induction n with
  | zero => intros; rfl
  | succ n ih =>
    intros
    simp only [spec_l11Reach_l0, ← ih]
    kernel_rfl
theorem spec_l11Reach_code (k m : Nat) (c1 : Cell) (c2 : Cell) (s3 : ByteArray) : evC G_spec_l11Reach fi_spec_l11Reach (evF G_spec_l11Reach (k + 1)) m fi_spec_l11Reach.code none (retK G_spec_l11Reach fi_spec_l11Reach) (enter fi_spec_l11Reach [.agg [c1, c2], .one (Cell.str s3)] []) = spec_l11Reach (k + 1) m c1 c2 s3 := by
  simp only [spec_l11Reach, ← spec_l11Reach_l0_eq k m]
  kernel_rfl
theorem spec_l11Reach_eq (k : Nat) (c1 : Cell) (c2 : Cell) (s3 : ByteArray) : evF G_spec_l11Reach (k + 2) fid_spec_l11Reach [.agg [c1, c2], .one (Cell.str s3)] [] = spec_l11Reach (k + 1) (k + 1) c1 c2 s3 :=
  Eq.trans (by kernel_rfl) (spec_l11Reach_code k (k + 1) c1 c2 s3)
theorem run_spec_l11Reach_of {c1 : Cell} {c2 : Cell} {s3 : ByteArray} {r : Res} (k : Nat) (h : spec_l11Reach (k + 1) (k + 1) c1 c2 s3 = some r) : run_spec_l11Reach [.agg [c1, c2], .one (Cell.str s3)] [] = some r := lim_of ((spec_l11Reach_eq k c1 c2 s3).trans h)
noncomputable def pl_spec_l11Packs : List (Nat × Run) := []
noncomputable def G_spec_l11Packs : Ctx := ctx tyTab fiTab pl_spec_l11Packs
noncomputable def run_spec_l11Packs : Run := lim G_spec_l11Packs fid_spec_l11Packs
theorem ok_spec_l11Packs : FnOk Try.prog OkT fid_spec_l11Packs run_spec_l11Packs := lim_ok (l := pl_spec_l11Packs) Try_mix tyTab_ok fiTab_ok okT .nil fid_spec_l11Packs
noncomputable def spec_l11Packs_l0 (k m : Nat) : Nat → Cell → Int → Cell → Cell → List Entry → Option Res
  | 0, _, _, _, _, _ => none
  | n + 1, c2, i3, c4, c5, H6 =>
    (lenC c2).bind fun n7 =>
    cond (decide (i3 < (n7 : Int)))
    ((idxA 4 (c2) i3).bind fun c8 =>
    (fldA c8 0).bind fun c9 =>
    (deref H6 (c9)).bind fun p10 =>
    (cS p10.1 p10.2).bind fun s11 =>
    (srcRows (H6 ++ [Entry.mk 1 [[Cell.str s11]] 0 false]) 1 (.vs H6.length 1 0 1 0)).bind fun r12 =>
    (app (H6 ++ [Entry.mk 1 [[Cell.str s11]] 0 false]) 1 16 (c4) r12).bind fun p13 =>
    (idxA 4 (c2) i3).bind fun c14 =>
    (fldA c14 1).bind fun c15 =>
    (deref [] (c15)).bind fun p16 =>
    (cC p16.1 p16.2).bind fun c17 =>
    (srcRows (p13.2 ++ [Entry.mk 1 [] 0 false]) 1 c17).bind fun r18 =>
    (app (p13.2 ++ [Entry.mk 1 [] 0 false]) 1 16 ((.vs p13.2.length 1 0 0 0)) r18).bind fun p19 =>
    (srcRows (p19.2 ++ [Entry.mk 1 [[p19.1]] 0 false]) 1 (.vs p19.2.length 1 0 1 0)).bind fun r20 =>
    (app (p19.2 ++ [Entry.mk 1 [[p19.1]] 0 false]) 1 24 (c5) r20).bind fun p21 =>
    spec_l11Packs_l0 k m n (c2) (IntKind.i64.wrap (i3 + 1)) (p13.1) (p21.1) p21.2)
    (some ([.agg [c4, c5]], H6))
noncomputable def spec_l11Packs (k m : Nat) (c1 : Cell) : Option Res :=
  spec_l11Packs_l0 k m m (c1) 0 (.lst true 1 []) (.lst true 1 []) []
noncomputable abbrev spec_l11Packs_l0_B (k m : Nat) : (Ex → Fr → Option Res) → Fr → Option Res := evC G_spec_l11Packs fi_spec_l11Packs (evF G_spec_l11Packs (k + 1)) m (sub [1, 1, 0, 1, 2, 3] fi_spec_l11Packs.code) none
noncomputable abbrev spec_l11Packs_l0_K (k m : Nat) : Ex → Fr → Option Res := blockK 0 (seqK (evC G_spec_l11Packs fi_spec_l11Packs (evF G_spec_l11Packs (k + 1)) m (sub [1, 1, 1] fi_spec_l11Packs.code) none) (retK G_spec_l11Packs fi_spec_l11Packs))
theorem spec_l11Packs_l0_eq (k m : Nat) : ∀ (n : Nat) (c2 : Cell) (i3 : Int) (c4 : Cell) (c5 : Cell) (H6 : List Entry), loopK (some [0, 2, 3, 4]) (spec_l11Packs_l0_B k m) (spec_l11Packs_l0_K k m) n ⟨fT 35 0 [(0, .av (.one (c2))), (2, .loc 2 0), (3, .loc 3 0), (4, .av (.one (Cell.int i3)))], fX 35 0 [(2, [.lst true 1 [], .lst true 1 []]), (3, [c4, c5])], H6⟩ = spec_l11Packs_l0 (k + 1) m n c2 i3 c4 c5 H6 := by
  intro n
  induction n with
  | zero => intros; rfl
  | succ n ih =>
    intros
    simp only [spec_l11Packs_l0, ← ih]
    kernel_rfl
theorem spec_l11Packs_code (k m : Nat) (c1 : Cell) : evC G_spec_l11Packs fi_spec_l11Packs (evF G_spec_l11Packs (k + 1)) m fi_spec_l11Packs.code none (retK G_spec_l11Packs fi_spec_l11Packs) (enter fi_spec_l11Packs [.one (c1)] []) = spec_l11Packs (k + 1) m c1 := by
  simp only [spec_l11Packs, ← spec_l11Packs_l0_eq k m]
  kernel_rfl
theorem spec_l11Packs_eq (k : Nat) (c1 : Cell) : evF G_spec_l11Packs (k + 2) fid_spec_l11Packs [.one (c1)] [] = spec_l11Packs (k + 1) (k + 1) c1 :=
  Eq.trans (by kernel_rfl) (spec_l11Packs_code k (k + 1) c1)
theorem run_spec_l11Packs_of {c1 : Cell} {r : Res} (k : Nat) (h : spec_l11Packs (k + 1) (k + 1) c1 = some r) : run_spec_l11Packs [.one (c1)] [] = some r := lim_of ((spec_l11Packs_eq k c1).trans h)
noncomputable def pl_spec_DeepUses : List (Nat × Run) := [(fid_spec_l11Reach, run_spec_l11Reach), (fid_spec_l11Packs, run_spec_l11Packs)]
noncomputable def G_spec_DeepUses : Ctx := ctx tyTab fiTab pl_spec_DeepUses
noncomputable def run_spec_DeepUses : Run := lim G_spec_DeepUses fid_spec_DeepUses
theorem ok_spec_DeepUses : FnOk Try.prog OkT fid_spec_DeepUses run_spec_DeepUses := lim_ok (l := pl_spec_DeepUses) Try_mix tyTab_ok fiTab_ok okT (.cons ok_spec_l11Reach (.cons ok_spec_l11Packs .nil)) fid_spec_DeepUses
noncomputable def spec_DeepUses (k m : Nat) (c1 : Cell) (s2 : ByteArray) : Option Res :=
  (callL run_spec_l11Packs [.one (c1)] []).bind fun r3 =>
  cond (shapeOk rk_spec_l11Packs r3.1)
  ((cC (cellsAt r3.1 0) 0).bind fun c4 =>
  (cC (cellsAt r3.1 0) 1).bind fun c5 =>
  (callL run_spec_l11Reach [.agg [c4, c5], .one (Cell.str s2)] r3.2).bind fun r6 =>
  cond (shapeOk rk_spec_l11Reach r6.1)
  ((cC (cellsAt r6.1 0) 0).bind fun c7 =>
  some ([.one (c7)], r6.2))
  none)
  none
theorem spec_DeepUses_code (k m : Nat) (c1 : Cell) (s2 : ByteArray) : evC G_spec_DeepUses fi_spec_DeepUses (evF G_spec_DeepUses (k + 1)) m fi_spec_DeepUses.code none (retK G_spec_DeepUses fi_spec_DeepUses) (enter fi_spec_DeepUses [.one (c1), .one (Cell.str s2)] []) = spec_DeepUses (k + 1) m c1 s2 := by
  kernel_rfl
theorem spec_DeepUses_eq (k : Nat) (c1 : Cell) (s2 : ByteArray) : evF G_spec_DeepUses (k + 2) fid_spec_DeepUses [.one (c1), .one (Cell.str s2)] [] = spec_DeepUses (k + 1) (k + 1) c1 s2 :=
  Eq.trans (by kernel_rfl) (spec_DeepUses_code k (k + 1) c1 s2)
theorem run_spec_DeepUses_of {c1 : Cell} {s2 : ByteArray} {r : Res} (k : Nat) (h : spec_DeepUses (k + 1) (k + 1) c1 s2 = some r) : run_spec_DeepUses [.one (c1), .one (Cell.str s2)] [] = some r := lim_of ((spec_DeepUses_eq k c1 s2).trans h)
noncomputable def pl_laws_toStringS : List (Nat × Run) := []
noncomputable def G_laws_toStringS : Ctx := ctx tyTab fiTab pl_laws_toStringS
noncomputable def run_laws_toStringS : Run := lim G_laws_toStringS fid_laws_toStringS
theorem ok_laws_toStringS : FnOk Try.prog OkT fid_laws_toStringS run_laws_toStringS := lim_ok (l := pl_laws_toStringS) Try_mix tyTab_ok fiTab_ok okT .nil fid_laws_toStringS
noncomputable def laws_toStringS_l0 (k m : Nat) : Nat → Cell → Cell → Int → List Entry → Option Res
  | 0, _, _, _, _ => none
  | n + 1, c3, c4, i5, H6 =>
    (lenC c3).bind fun n7 =>
    cond (decide (i5 < (n7 : Int)))
    ((idxA 1 (c3) i5).bind fun c8 =>
    (deref H6 (c8)).bind fun p9 =>
    (cS p9.1 p9.2).bind fun s10 =>
    (idxA 1 (c4) i5).bind fun c11 =>
    (hStore H6 (c11) [Cell.str s10]).bind fun h12 =>
    laws_toStringS_l0 k m n (c3) (c4) (IntKind.i64.wrap (i5 + 1)) h12)
    (some ([.one (c4)], H6))
noncomputable def laws_toStringS (k m : Nat) (c1 : Cell) : Option Res :=
  (lenC c1).bind fun n2 =>
  if 0 ≤ (n2 : Int) ∧ (n2 : Int) ≤ (n2 : Int) ∧ (n2 : Int) * 16 ≤ bound ∧ (n2 : Int) ≤ bound then
  (laws_toStringS_l0 k m m (c1) ((.vs 0 1 0 (n2 : Int).toNat 0)) 0 [Entry.mk 1 (mkRows (n2 : Int).toNat [Cell.str (bs [])]) 0 false]) else none
noncomputable abbrev laws_toStringS_l0_B (k m : Nat) : (Ex → Fr → Option Res) → Fr → Option Res := evC G_laws_toStringS fi_laws_toStringS (evF G_laws_toStringS (k + 1)) m (sub [1, 1, 0, 1, 2, 3] fi_laws_toStringS.code) none
noncomputable abbrev laws_toStringS_l0_K (k m : Nat) : Ex → Fr → Option Res := blockK 0 (seqK (evC G_laws_toStringS fi_laws_toStringS (evF G_laws_toStringS (k + 1)) m (sub [1, 1, 1] fi_laws_toStringS.code) none) (retK G_laws_toStringS fi_laws_toStringS))
theorem laws_toStringS_l0_eq (k m : Nat) : ∀ (n : Nat) (c3 : Cell) (c4 : Cell) (i5 : Int) (H6 : List Entry), loopK (some [0, 3, 4]) (laws_toStringS_l0_B k m) (laws_toStringS_l0_K k m) n ⟨fT 22 0 [(0, .av (.one (c3))), (3, .av (.one (c4))), (4, .av (.one (Cell.int i5)))], fX 22 0 [], H6⟩ = laws_toStringS_l0 (k + 1) m n c3 c4 i5 H6 := by
  intro n
  induction n with
  | zero => intros; rfl
  | succ n ih =>
    intros
    simp only [laws_toStringS_l0, ← ih]
    kernel_rfl
theorem laws_toStringS_code (k m : Nat) (c1 : Cell) : evC G_laws_toStringS fi_laws_toStringS (evF G_laws_toStringS (k + 1)) m fi_laws_toStringS.code none (retK G_laws_toStringS fi_laws_toStringS) (enter fi_laws_toStringS [.one (c1)] []) = laws_toStringS (k + 1) m c1 := by
  simp only [laws_toStringS, ← laws_toStringS_l0_eq k m]
  kernel_rfl
theorem laws_toStringS_eq (k : Nat) (c1 : Cell) : evF G_laws_toStringS (k + 2) fid_laws_toStringS [.one (c1)] [] = laws_toStringS (k + 1) (k + 1) c1 :=
  Eq.trans (by kernel_rfl) (laws_toStringS_code k (k + 1) c1)
theorem run_laws_toStringS_of {c1 : Cell} {r : Res} (k : Nat) (h : laws_toStringS (k + 1) (k + 1) c1 = some r) : run_laws_toStringS [.one (c1)] [] = some r := lim_of ((laws_toStringS_eq k c1).trans h)
noncomputable def pl_laws_toNeed : List (Nat × Run) := []
noncomputable def G_laws_toNeed : Ctx := ctx tyTab fiTab pl_laws_toNeed
noncomputable def run_laws_toNeed : Run := lim G_laws_toNeed fid_laws_toNeed
theorem ok_laws_toNeed : FnOk Try.prog OkT fid_laws_toNeed run_laws_toNeed := lim_ok (l := pl_laws_toNeed) Try_mix tyTab_ok fiTab_ok okT .nil fid_laws_toNeed
noncomputable def laws_toNeed (k m : Nat) (s1 : ByteArray) (s2 : ByteArray) : Option Res :=
  some ([.agg [Cell.str s1, Cell.str s2]], [])
theorem laws_toNeed_code (k m : Nat) (s1 : ByteArray) (s2 : ByteArray) : evC G_laws_toNeed fi_laws_toNeed (evF G_laws_toNeed (k + 1)) m fi_laws_toNeed.code none (retK G_laws_toNeed fi_laws_toNeed) (enter fi_laws_toNeed [.agg [Cell.str s1, Cell.str s2]] []) = laws_toNeed (k + 1) m s1 s2 := by
  kernel_rfl
theorem laws_toNeed_eq (k : Nat) (s1 : ByteArray) (s2 : ByteArray) : evF G_laws_toNeed (k + 2) fid_laws_toNeed [.agg [Cell.str s1, Cell.str s2]] [] = laws_toNeed (k + 1) (k + 1) s1 s2 :=
  Eq.trans (by kernel_rfl) (laws_toNeed_code k (k + 1) s1 s2)
theorem run_laws_toNeed_of {s1 : ByteArray} {s2 : ByteArray} {r : Res} (k : Nat) (h : laws_toNeed (k + 1) (k + 1) s1 s2 = some r) : run_laws_toNeed [.agg [Cell.str s1, Cell.str s2]] [] = some r := lim_of ((laws_toNeed_eq k s1 s2).trans h)
noncomputable def pl_laws_toNeedS : List (Nat × Run) := [(fid_laws_toNeed, run_laws_toNeed)]
noncomputable def G_laws_toNeedS : Ctx := ctx tyTab fiTab pl_laws_toNeedS
noncomputable def run_laws_toNeedS : Run := lim G_laws_toNeedS fid_laws_toNeedS
theorem ok_laws_toNeedS : FnOk Try.prog OkT fid_laws_toNeedS run_laws_toNeedS := lim_ok (l := pl_laws_toNeedS) Try_mix tyTab_ok fiTab_ok okT (.cons ok_laws_toNeed .nil) fid_laws_toNeedS
noncomputable def laws_toNeedS_l0 (k m : Nat) : Nat → Cell → Cell → Int → List Entry → Option Res
  | 0, _, _, _, _ => none
  | n + 1, c3, c4, i5, H6 =>
    (lenC c3).bind fun n7 =>
    cond (decide (i5 < (n7 : Int)))
    ((idxA 2 (c3) i5).bind fun c8 =>
    (deref H6 (c8)).bind fun p9 =>
    (cS p9.1 p9.2).bind fun s10 =>
    (cS p9.1 (p9.2 + 1)).bind fun s11 =>
    (callF run_laws_toNeed [.agg [Cell.str s10, Cell.str s11]] H6).bind fun r12 =>
    cond (shapeOk rk_laws_toNeed r12.1)
    ((cS (cellsAt r12.1 0) 0).bind fun s13 =>
    (cS (cellsAt r12.1 0) 1).bind fun s14 =>
    (idxA 2 (c4) i5).bind fun c15 =>
    (hStore r12.2 (c15) [Cell.str s13, Cell.str s14]).bind fun h16 =>
    laws_toNeedS_l0 k m n (c3) (c4) (IntKind.i64.wrap (i5 + 1)) h16)
    none)
    (some ([.one (c4)], H6))
noncomputable def laws_toNeedS (k m : Nat) (c1 : Cell) : Option Res :=
  (lenC c1).bind fun n2 =>
  if 0 ≤ (n2 : Int) ∧ (n2 : Int) ≤ (n2 : Int) ∧ (n2 : Int) * 32 ≤ bound ∧ (n2 : Int) ≤ bound then
  (laws_toNeedS_l0 k m m (c1) ((.vs 0 2 0 (n2 : Int).toNat 0)) 0 [Entry.mk 2 (mkRows (n2 : Int).toNat [Cell.str (bs []), Cell.str (bs [])]) 0 false]) else none
noncomputable abbrev laws_toNeedS_l0_B (k m : Nat) : (Ex → Fr → Option Res) → Fr → Option Res := evC G_laws_toNeedS fi_laws_toNeedS (evF G_laws_toNeedS (k + 1)) m (sub [1, 1, 0, 1, 2, 3] fi_laws_toNeedS.code) none
noncomputable abbrev laws_toNeedS_l0_K (k m : Nat) : Ex → Fr → Option Res := blockK 0 (seqK (evC G_laws_toNeedS fi_laws_toNeedS (evF G_laws_toNeedS (k + 1)) m (sub [1, 1, 1] fi_laws_toNeedS.code) none) (retK G_laws_toNeedS fi_laws_toNeedS))
theorem laws_toNeedS_l0_eq (k m : Nat) : ∀ (n : Nat) (c3 : Cell) (c4 : Cell) (i5 : Int) (H6 : List Entry), loopK (some [0, 3, 4]) (laws_toNeedS_l0_B k m) (laws_toNeedS_l0_K k m) n ⟨fT 23 0 [(0, .av (.one (c3))), (3, .av (.one (c4))), (4, .av (.one (Cell.int i5)))], fX 23 0 [], H6⟩ = laws_toNeedS_l0 (k + 1) m n c3 c4 i5 H6 := by
  intro n
  induction n with
  | zero => intros; rfl
  | succ n ih =>
    intros
    simp only [laws_toNeedS_l0, ← ih]
    kernel_rfl
theorem laws_toNeedS_code (k m : Nat) (c1 : Cell) : evC G_laws_toNeedS fi_laws_toNeedS (evF G_laws_toNeedS (k + 1)) m fi_laws_toNeedS.code none (retK G_laws_toNeedS fi_laws_toNeedS) (enter fi_laws_toNeedS [.one (c1)] []) = laws_toNeedS (k + 1) m c1 := by
  simp only [laws_toNeedS, ← laws_toNeedS_l0_eq k m]
  kernel_rfl
theorem laws_toNeedS_eq (k : Nat) (c1 : Cell) : evF G_laws_toNeedS (k + 2) fid_laws_toNeedS [.one (c1)] [] = laws_toNeedS (k + 1) (k + 1) c1 :=
  Eq.trans (by kernel_rfl) (laws_toNeedS_code k (k + 1) c1)
theorem run_laws_toNeedS_of {c1 : Cell} {r : Res} (k : Nat) (h : laws_toNeedS (k + 1) (k + 1) c1 = some r) : run_laws_toNeedS [.one (c1)] [] = some r := lim_of ((laws_toNeedS_eq k c1).trans h)
noncomputable def pl_laws_toCmd : List (Nat × Run) := [(fid_laws_toStringS, run_laws_toStringS)]
noncomputable def G_laws_toCmd : Ctx := ctx tyTab fiTab pl_laws_toCmd
noncomputable def run_laws_toCmd : Run := lim G_laws_toCmd fid_laws_toCmd
theorem ok_laws_toCmd : FnOk Try.prog OkT fid_laws_toCmd run_laws_toCmd := lim_ok (l := pl_laws_toCmd) Try_mix tyTab_ok fiTab_ok okT (.cons ok_laws_toStringS .nil) fid_laws_toCmd
noncomputable def laws_toCmd (k m : Nat) (s1 : ByteArray) (c2 : Cell) : Option Res :=
  (callF run_laws_toStringS [.one (c2)] []).bind fun r3 =>
  cond (shapeOk rk_laws_toStringS r3.1)
  ((cC (cellsAt r3.1 0) 0).bind fun c4 =>
  some ([.agg [Cell.str s1, c4]], r3.2))
  none
theorem laws_toCmd_code (k m : Nat) (s1 : ByteArray) (c2 : Cell) : evC G_laws_toCmd fi_laws_toCmd (evF G_laws_toCmd (k + 1)) m fi_laws_toCmd.code none (retK G_laws_toCmd fi_laws_toCmd) (enter fi_laws_toCmd [.agg [Cell.str s1, c2]] []) = laws_toCmd (k + 1) m s1 c2 := by
  kernel_rfl
theorem laws_toCmd_eq (k : Nat) (s1 : ByteArray) (c2 : Cell) : evF G_laws_toCmd (k + 2) fid_laws_toCmd [.agg [Cell.str s1, c2]] [] = laws_toCmd (k + 1) (k + 1) s1 c2 :=
  Eq.trans (by kernel_rfl) (laws_toCmd_code k (k + 1) s1 c2)
theorem run_laws_toCmd_of {s1 : ByteArray} {c2 : Cell} {r : Res} (k : Nat) (h : laws_toCmd (k + 1) (k + 1) s1 c2 = some r) : run_laws_toCmd [.agg [Cell.str s1, c2]] [] = some r := lim_of ((laws_toCmd_eq k s1 c2).trans h)
noncomputable def pl_laws_toCmdS : List (Nat × Run) := [(fid_laws_toCmd, run_laws_toCmd)]
noncomputable def G_laws_toCmdS : Ctx := ctx tyTab fiTab pl_laws_toCmdS
noncomputable def run_laws_toCmdS : Run := lim G_laws_toCmdS fid_laws_toCmdS
theorem ok_laws_toCmdS : FnOk Try.prog OkT fid_laws_toCmdS run_laws_toCmdS := lim_ok (l := pl_laws_toCmdS) Try_mix tyTab_ok fiTab_ok okT (.cons ok_laws_toCmd .nil) fid_laws_toCmdS
noncomputable def laws_toCmdS_l0 (k m : Nat) : Nat → Cell → Cell → Int → List Entry → Option Res
  | 0, _, _, _, _ => none
  | n + 1, c3, c4, i5, H6 =>
    (lenC c3).bind fun n7 =>
    cond (decide (i5 < (n7 : Int)))
    ((idxA 2 (c3) i5).bind fun c8 =>
    (deref H6 (c8)).bind fun p9 =>
    (cS p9.1 p9.2).bind fun s10 =>
    (cC p9.1 (p9.2 + 1)).bind fun c11 =>
    (callF run_laws_toCmd [.agg [Cell.str s10, c11]] H6).bind fun r12 =>
    cond (shapeOk rk_laws_toCmd r12.1)
    ((cS (cellsAt r12.1 0) 0).bind fun s13 =>
    (cC (cellsAt r12.1 0) 1).bind fun c14 =>
    (idxA 2 (c4) i5).bind fun c15 =>
    (hStore r12.2 (c15) [Cell.str s13, c14]).bind fun h16 =>
    laws_toCmdS_l0 k m n (c3) (c4) (IntKind.i64.wrap (i5 + 1)) h16)
    none)
    (some ([.one (c4)], H6))
noncomputable def laws_toCmdS (k m : Nat) (c1 : Cell) : Option Res :=
  (lenC c1).bind fun n2 =>
  if 0 ≤ (n2 : Int) ∧ (n2 : Int) ≤ (n2 : Int) ∧ (n2 : Int) * 40 ≤ bound ∧ (n2 : Int) ≤ bound then
  (laws_toCmdS_l0 k m m (c1) ((.vs 0 2 0 (n2 : Int).toNat 0)) 0 [Entry.mk 2 (mkRows (n2 : Int).toNat [Cell.str (bs []), .lst true 1 []]) 0 false]) else none
noncomputable abbrev laws_toCmdS_l0_B (k m : Nat) : (Ex → Fr → Option Res) → Fr → Option Res := evC G_laws_toCmdS fi_laws_toCmdS (evF G_laws_toCmdS (k + 1)) m (sub [1, 1, 0, 1, 2, 3] fi_laws_toCmdS.code) none
noncomputable abbrev laws_toCmdS_l0_K (k m : Nat) : Ex → Fr → Option Res := blockK 0 (seqK (evC G_laws_toCmdS fi_laws_toCmdS (evF G_laws_toCmdS (k + 1)) m (sub [1, 1, 1] fi_laws_toCmdS.code) none) (retK G_laws_toCmdS fi_laws_toCmdS))
theorem laws_toCmdS_l0_eq (k m : Nat) : ∀ (n : Nat) (c3 : Cell) (c4 : Cell) (i5 : Int) (H6 : List Entry), loopK (some [0, 3, 4]) (laws_toCmdS_l0_B k m) (laws_toCmdS_l0_K k m) n ⟨fT 23 0 [(0, .av (.one (c3))), (3, .av (.one (c4))), (4, .av (.one (Cell.int i5)))], fX 23 0 [], H6⟩ = laws_toCmdS_l0 (k + 1) m n c3 c4 i5 H6 := by
  intro n
  induction n with
  | zero => intros; rfl
  | succ n ih =>
    intros
    simp only [laws_toCmdS_l0, ← ih]
    kernel_rfl
theorem laws_toCmdS_code (k m : Nat) (c1 : Cell) : evC G_laws_toCmdS fi_laws_toCmdS (evF G_laws_toCmdS (k + 1)) m fi_laws_toCmdS.code none (retK G_laws_toCmdS fi_laws_toCmdS) (enter fi_laws_toCmdS [.one (c1)] []) = laws_toCmdS (k + 1) m c1 := by
  simp only [laws_toCmdS, ← laws_toCmdS_l0_eq k m]
  kernel_rfl
theorem laws_toCmdS_eq (k : Nat) (c1 : Cell) : evF G_laws_toCmdS (k + 2) fid_laws_toCmdS [.one (c1)] [] = laws_toCmdS (k + 1) (k + 1) c1 :=
  Eq.trans (by kernel_rfl) (laws_toCmdS_code k (k + 1) c1)
theorem run_laws_toCmdS_of {c1 : Cell} {r : Res} (k : Nat) (h : laws_toCmdS (k + 1) (k + 1) c1 = some r) : run_laws_toCmdS [.one (c1)] [] = some r := lim_of ((laws_toCmdS_eq k c1).trans h)
noncomputable def pl_laws_toPack : List (Nat × Run) := [(fid_laws_toStringS, run_laws_toStringS), (fid_laws_toNeedS, run_laws_toNeedS), (fid_laws_toCmdS, run_laws_toCmdS)]
noncomputable def G_laws_toPack : Ctx := ctx tyTab fiTab pl_laws_toPack
noncomputable def run_laws_toPack : Run := lim G_laws_toPack fid_laws_toPack
theorem ok_laws_toPack : FnOk Try.prog OkT fid_laws_toPack run_laws_toPack := lim_ok (l := pl_laws_toPack) Try_mix tyTab_ok fiTab_ok okT (.cons ok_laws_toStringS (.cons ok_laws_toNeedS (.cons ok_laws_toCmdS .nil))) fid_laws_toPack
noncomputable def laws_toPack (k m : Nat) (s1 : ByteArray) (c2 : Cell) (c3 : Cell) (c4 : Cell) : Option Res :=
  (callF run_laws_toStringS [.one (c2)] []).bind fun r5 =>
  cond (shapeOk rk_laws_toStringS r5.1)
  ((cC (cellsAt r5.1 0) 0).bind fun c6 =>
  (callF run_laws_toNeedS [.one (c3)] r5.2).bind fun r7 =>
  cond (shapeOk rk_laws_toNeedS r7.1)
  ((cC (cellsAt r7.1 0) 0).bind fun c8 =>
  (callF run_laws_toCmdS [.one (c4)] r7.2).bind fun r9 =>
  cond (shapeOk rk_laws_toCmdS r9.1)
  ((cC (cellsAt r9.1 0) 0).bind fun c10 =>
  some ([.agg [Cell.str s1, c6, c8, c10]], r9.2))
  none)
  none)
  none
theorem laws_toPack_code (k m : Nat) (s1 : ByteArray) (c2 : Cell) (c3 : Cell) (c4 : Cell) : evC G_laws_toPack fi_laws_toPack (evF G_laws_toPack (k + 1)) m fi_laws_toPack.code none (retK G_laws_toPack fi_laws_toPack) (enter fi_laws_toPack [.agg [Cell.str s1, c2, c3, c4]] []) = laws_toPack (k + 1) m s1 c2 c3 c4 := by
  kernel_rfl
theorem laws_toPack_eq (k : Nat) (s1 : ByteArray) (c2 : Cell) (c3 : Cell) (c4 : Cell) : evF G_laws_toPack (k + 2) fid_laws_toPack [.agg [Cell.str s1, c2, c3, c4]] [] = laws_toPack (k + 1) (k + 1) s1 c2 c3 c4 :=
  Eq.trans (by kernel_rfl) (laws_toPack_code k (k + 1) s1 c2 c3 c4)
theorem run_laws_toPack_of {s1 : ByteArray} {c2 : Cell} {c3 : Cell} {c4 : Cell} {r : Res} (k : Nat) (h : laws_toPack (k + 1) (k + 1) s1 c2 c3 c4 = some r) : run_laws_toPack [.agg [Cell.str s1, c2, c3, c4]] [] = some r := lim_of ((laws_toPack_eq k s1 c2 c3 c4).trans h)
noncomputable def pl_laws_toPackS : List (Nat × Run) := [(fid_laws_toPack, run_laws_toPack)]
noncomputable def G_laws_toPackS : Ctx := ctx tyTab fiTab pl_laws_toPackS
noncomputable def run_laws_toPackS : Run := lim G_laws_toPackS fid_laws_toPackS
theorem ok_laws_toPackS : FnOk Try.prog OkT fid_laws_toPackS run_laws_toPackS := lim_ok (l := pl_laws_toPackS) Try_mix tyTab_ok fiTab_ok okT (.cons ok_laws_toPack .nil) fid_laws_toPackS
noncomputable def laws_toPackS_l0 (k m : Nat) : Nat → Cell → Cell → Int → List Entry → Option Res
  | 0, _, _, _, _ => none
  | n + 1, c3, c4, i5, H6 =>
    (lenC c3).bind fun n7 =>
    cond (decide (i5 < (n7 : Int)))
    ((idxA 4 (c3) i5).bind fun c8 =>
    (deref H6 (c8)).bind fun p9 =>
    (cS p9.1 p9.2).bind fun s10 =>
    (cC p9.1 (p9.2 + 1)).bind fun c11 =>
    (cC p9.1 ((p9.2 + 1) + 1)).bind fun c12 =>
    (cC p9.1 (((p9.2 + 1) + 1) + 1)).bind fun c13 =>
    (callF run_laws_toPack [.agg [Cell.str s10, c11, c12, c13]] H6).bind fun r14 =>
    cond (shapeOk rk_laws_toPack r14.1)
    ((cS (cellsAt r14.1 0) 0).bind fun s15 =>
    (cC (cellsAt r14.1 0) 1).bind fun c16 =>
    (cC (cellsAt r14.1 0) 2).bind fun c17 =>
    (cC (cellsAt r14.1 0) 3).bind fun c18 =>
    (idxA 4 (c4) i5).bind fun c19 =>
    (hStore r14.2 (c19) [Cell.str s15, c16, c17, c18]).bind fun h20 =>
    laws_toPackS_l0 k m n (c3) (c4) (IntKind.i64.wrap (i5 + 1)) h20)
    none)
    (some ([.one (c4)], H6))
noncomputable def laws_toPackS (k m : Nat) (c1 : Cell) : Option Res :=
  (lenC c1).bind fun n2 =>
  if 0 ≤ (n2 : Int) ∧ (n2 : Int) ≤ (n2 : Int) ∧ (n2 : Int) * 88 ≤ bound ∧ (n2 : Int) ≤ bound then
  (laws_toPackS_l0 k m m (c1) ((.vs 0 4 0 (n2 : Int).toNat 0)) 0 [Entry.mk 4 (mkRows (n2 : Int).toNat [Cell.str (bs []), .lst true 1 [], .lst true 2 [], .lst true 2 []]) 0 false]) else none
noncomputable abbrev laws_toPackS_l0_B (k m : Nat) : (Ex → Fr → Option Res) → Fr → Option Res := evC G_laws_toPackS fi_laws_toPackS (evF G_laws_toPackS (k + 1)) m (sub [1, 1, 0, 1, 2, 3] fi_laws_toPackS.code) none
noncomputable abbrev laws_toPackS_l0_K (k m : Nat) : Ex → Fr → Option Res := blockK 0 (seqK (evC G_laws_toPackS fi_laws_toPackS (evF G_laws_toPackS (k + 1)) m (sub [1, 1, 1] fi_laws_toPackS.code) none) (retK G_laws_toPackS fi_laws_toPackS))
theorem laws_toPackS_l0_eq (k m : Nat) : ∀ (n : Nat) (c3 : Cell) (c4 : Cell) (i5 : Int) (H6 : List Entry), loopK (some [0, 3, 4]) (laws_toPackS_l0_B k m) (laws_toPackS_l0_K k m) n ⟨fT 23 0 [(0, .av (.one (c3))), (3, .av (.one (c4))), (4, .av (.one (Cell.int i5)))], fX 23 0 [], H6⟩ = laws_toPackS_l0 (k + 1) m n c3 c4 i5 H6 := by
  intro n
  induction n with
  | zero => intros; rfl
  | succ n ih =>
    intros
    simp only [laws_toPackS_l0, ← ih]
    kernel_rfl
theorem laws_toPackS_code (k m : Nat) (c1 : Cell) : evC G_laws_toPackS fi_laws_toPackS (evF G_laws_toPackS (k + 1)) m fi_laws_toPackS.code none (retK G_laws_toPackS fi_laws_toPackS) (enter fi_laws_toPackS [.one (c1)] []) = laws_toPackS (k + 1) m c1 := by
  simp only [laws_toPackS, ← laws_toPackS_l0_eq k m]
  kernel_rfl
theorem laws_toPackS_eq (k : Nat) (c1 : Cell) : evF G_laws_toPackS (k + 2) fid_laws_toPackS [.one (c1)] [] = laws_toPackS (k + 1) (k + 1) c1 :=
  Eq.trans (by kernel_rfl) (laws_toPackS_code k (k + 1) c1)
theorem run_laws_toPackS_of {c1 : Cell} {r : Res} (k : Nat) (h : laws_toPackS (k + 1) (k + 1) c1 = some r) : run_laws_toPackS [.one (c1)] [] = some r := lim_of ((laws_toPackS_eq k c1).trans h)
end Go.Ev
