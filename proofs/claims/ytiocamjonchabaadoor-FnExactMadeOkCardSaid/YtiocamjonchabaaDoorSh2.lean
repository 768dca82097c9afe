/- What the evaluator says of the functions, each as a Lean function over cells. Printed by a program of this claim. Conditions: none. -/
import Derived.Test.YtiocamjonchabaaDoorSh1
import Derived.KernelRfl
namespace Go.Ev
open Go Go.Proofs
set_option maxRecDepth 100000
set_option linter.unusedVariables false
set_option linter.unusedSimpArgs false
noncomputable def pl_impl_outsOk : List (Nat × Run) := [(fid_impl_fileNameOk, run_impl_fileNameOk), (fid_impl_FilesOk, run_impl_FilesOk)]
noncomputable def G_impl_outsOk : Ctx := ctx tyTab fiTab pl_impl_outsOk
noncomputable def run_impl_outsOk : Run := lim G_impl_outsOk fid_impl_outsOk
theorem ok_impl_outsOk : FnOk Tryd.prog OkT fid_impl_outsOk run_impl_outsOk := lim_ok (l := pl_impl_outsOk) Tryd_mix tyTab_ok fiTab_ok okT (.cons ok_impl_fileNameOk (.cons ok_impl_FilesOk .nil)) fid_impl_outsOk
noncomputable def impl_outsOk_l0 (k m : Nat) : Nat → Cell → Cell → Int → Int → Option Res
  | 0, _, _, _, _ => none
  | n + 1, c3, c4, i5, i6 =>
    cond (decide (i6 < i5))
    ((idxA 2 (c4) i6).bind fun c7 =>
    (deref [] (c7)).bind fun p8 =>
    (cS p8.1 p8.2).bind fun s9 =>
    (cS p8.1 (p8.2 + 1)).bind fun s10 =>
    (callS run_impl_fileNameOk [.one (Cell.str s9)] []).bind fun r11 =>
    cond (shapeOk rk_impl_fileNameOk r11)
    ((cB (cellsAt r11 0) 0).bind fun b12 =>
    cond (!b12)
    (some ([.one (Cell.bool false)], []))
    (impl_outsOk_l0 k m n (c3) (c4) i5 (IntKind.i64.wrap (i6 + 1))))
    none)
    ((lenC c3).bind fun n13 =>
    cond (decide ((n13 : Int) ≤ 6))
    ((callS run_impl_FilesOk [.one (c3)] []).bind fun r14 =>
    cond (shapeOk rk_impl_FilesOk r14)
    ((cB (cellsAt r14 0) 0).bind fun b15 =>
    some ([.one (Cell.bool b15)], []))
    none)
    (some ([.one (Cell.bool false)], [])))
noncomputable def impl_outsOk (k m : Nat) (c1 : Cell) : Option Res :=
  (lenC c1).bind fun n2 =>
  impl_outsOk_l0 k m m (c1) (c1) (n2 : Int) 0
noncomputable abbrev impl_outsOk_l0_B (k m : Nat) : (Ex → Fr → Option Res) → Fr → Option Res := evC G_impl_outsOk fi_impl_outsOk (evF G_impl_outsOk (k + 1)) m (sub [1, 0, 1, 2, 3] fi_impl_outsOk.code) none
noncomputable abbrev impl_outsOk_l0_K (k m : Nat) : Ex → Fr → Option Res := blockK 0 (seqK (evC G_impl_outsOk fi_impl_outsOk (evF G_impl_outsOk (k + 1)) m (sub [1, 1] fi_impl_outsOk.code) none) (retK G_impl_outsOk fi_impl_outsOk))
theorem impl_outsOk_l0_eq (k m : Nat) : ∀ (n : Nat) (c3 : Cell) (c4 : Cell) (i5 : Int) (i6 : Int), loopK (some [0, 5, 6, 7]) (impl_outsOk_l0_B k m) (impl_outsOk_l0_K k m) n ⟨fT 23 0 [(0, .av (.one (c3))), (5, .av (.one (c4))), (6, .av (.one (Cell.int i5))), (7, .av (.one (Cell.int i6)))], fX 23 0 [], []⟩ = impl_outsOk_l0 (k + 1) m n c3 c4 i5 i6 := by
  intro n
  induction n with
  | zero => intros; rfl
  | succ n ih =>
    intros
    simp only [impl_outsOk_l0, ← ih]
    kernel_rfl
theorem impl_outsOk_code (k m : Nat) (c1 : Cell) : evC G_impl_outsOk fi_impl_outsOk (evF G_impl_outsOk (k + 1)) m fi_impl_outsOk.code none (retK G_impl_outsOk fi_impl_outsOk) (enter fi_impl_outsOk [.one (c1)] []) = impl_outsOk (k + 1) m c1 := by
  simp only [impl_outsOk, ← impl_outsOk_l0_eq k m]
  kernel_rfl
theorem impl_outsOk_eq (k : Nat) (c1 : Cell) : evF G_impl_outsOk (k + 2) fid_impl_outsOk [.one (c1)] [] = impl_outsOk (k + 1) (k + 1) c1 :=
  Eq.trans (by kernel_rfl) (impl_outsOk_code k (k + 1) c1)
theorem run_impl_outsOk_of {c1 : Cell} {r : Res} (k : Nat) (h : impl_outsOk (k + 1) (k + 1) c1 = some r) : run_impl_outsOk [.one (c1)] [] = some r := lim_of ((impl_outsOk_eq k c1).trans h)
noncomputable def pl_impl_MadeOk : List (Nat × Run) := [(fid_impl_isTask, run_impl_isTask), (fid_impl_outsOk, run_impl_outsOk)]
noncomputable def G_impl_MadeOk : Ctx := ctx tyTab fiTab pl_impl_MadeOk
noncomputable def run_impl_MadeOk : Run := lim G_impl_MadeOk fid_impl_MadeOk
theorem ok_impl_MadeOk : FnOk Tryd.prog OkT fid_impl_MadeOk run_impl_MadeOk := lim_ok (l := pl_impl_MadeOk) Tryd_mix tyTab_ok fiTab_ok okT (.cons ok_impl_isTask (.cons ok_impl_outsOk .nil)) fid_impl_MadeOk
noncomputable def impl_MadeOk (k m : Nat) (s1 : ByteArray) (c2 : Cell) (s3 : ByteArray) : Option Res :=
  (callS run_impl_isTask [.one (Cell.str s1)] []).bind fun r4 =>
  cond (shapeOk rk_impl_isTask r4)
  ((cB (cellsAt r4 0) 0).bind fun b5 =>
  cond b5
  ((callS run_impl_outsOk [.one (c2)] []).bind fun r6 =>
  cond (shapeOk rk_impl_outsOk r6)
  ((cB (cellsAt r6 0) 0).bind fun b7 =>
  cond b7
  (some ([.one (Cell.bool (decide ((s3.size : Int) ≤ 200)))], []))
  (some ([.one (Cell.bool false)], [])))
  none)
  (some ([.one (Cell.bool false)], [])))
  none
theorem impl_MadeOk_code (k m : Nat) (s1 : ByteArray) (c2 : Cell) (s3 : ByteArray) : evC G_impl_MadeOk fi_impl_MadeOk (evF G_impl_MadeOk (k + 1)) m fi_impl_MadeOk.code none (retK G_impl_MadeOk fi_impl_MadeOk) (enter fi_impl_MadeOk [.agg [Cell.str s1, c2, Cell.str s3]] []) = impl_MadeOk (k + 1) m s1 c2 s3 := by
  kernel_rfl
theorem impl_MadeOk_eq (k : Nat) (s1 : ByteArray) (c2 : Cell) (s3 : ByteArray) : evF G_impl_MadeOk (k + 2) fid_impl_MadeOk [.agg [Cell.str s1, c2, Cell.str s3]] [] = impl_MadeOk (k + 1) (k + 1) s1 c2 s3 :=
  Eq.trans (by kernel_rfl) (impl_MadeOk_code k (k + 1) s1 c2 s3)
theorem run_impl_MadeOk_of {s1 : ByteArray} {c2 : Cell} {s3 : ByteArray} {r : Res} (k : Nat) (h : impl_MadeOk (k + 1) (k + 1) s1 c2 s3 = some r) : run_impl_MadeOk [.agg [Cell.str s1, c2, Cell.str s3]] [] = some r := lim_of ((impl_MadeOk_eq k s1 c2 s3).trans h)
noncomputable def pl_laws_FnExactMadeOk : List (Nat × Run) := [(fid_laws_szMade, run_laws_szMade), (fid_laws_toMade, run_laws_toMade), (fid_laws_eqMade, run_laws_eqMade), (fid_spec_MadeOk, run_spec_MadeOk), (fid_impl_MadeOk, run_impl_MadeOk)]
noncomputable def G_laws_FnExactMadeOk : Ctx := ctx tyTab fiTab pl_laws_FnExactMadeOk
noncomputable def run_laws_FnExactMadeOk : Run := lim G_laws_FnExactMadeOk fid_laws_FnExactMadeOk
theorem ok_laws_FnExactMadeOk : FnOk Tryd.prog OkT fid_laws_FnExactMadeOk run_laws_FnExactMadeOk := lim_ok (l := pl_laws_FnExactMadeOk) Tryd_mix tyTab_ok fiTab_ok okT (.cons ok_laws_szMade (.cons ok_laws_toMade (.cons ok_laws_eqMade (.cons ok_spec_MadeOk (.cons ok_impl_MadeOk .nil))))) fid_laws_FnExactMadeOk
noncomputable def laws_FnExactMadeOk (k m : Nat) (s1 : ByteArray) (c2 : Cell) (s3 : ByteArray) : Option Res :=
  (callS run_laws_szMade [.agg [Cell.str s1, c2, Cell.str s3], .one (Cell.int 1048576)] []).bind fun r4 =>
  cond (shapeOk rk_laws_szMade r4)
  ((cI .i64 (cellsAt r4 0) 0).bind fun i5 =>
  cond (decide (i5 < 0))
  (some ([.one (Cell.bool true)], []))
  ((callL run_laws_toMade [.agg [Cell.str s1, c2, Cell.str s3]] []).bind fun r6 =>
  cond (shapeOk rk_laws_toMade r6.1)
  ((cS (cellsAt r6.1 0) 0).bind fun s7 =>
  (cC (cellsAt r6.1 0) 1).bind fun c8 =>
  (cS (cellsAt r6.1 0) 2).bind fun s9 =>
  (callS run_spec_MadeOk [.agg [Cell.str s7, c8, Cell.str s9]] r6.2).bind fun r10 =>
  cond (shapeOk rk_spec_MadeOk r10)
  ((cB (cellsAt r10 0) 0).bind fun b11 =>
  (callL run_laws_toMade [.agg [Cell.str s1, c2, Cell.str s3]] r6.2).bind fun r12 =>
  cond (shapeOk rk_laws_toMade r12.1)
  ((cS (cellsAt r12.1 0) 0).bind fun s13 =>
  (cC (cellsAt r12.1 0) 1).bind fun c14 =>
  (cS (cellsAt r12.1 0) 2).bind fun s15 =>
  (callS run_impl_MadeOk [.agg [Cell.str s13, c14, Cell.str s15]] r12.2).bind fun r16 =>
  cond (shapeOk rk_impl_MadeOk r16)
  ((cB (cellsAt r16 0) 0).bind fun b17 =>
  cond (!(b17 == b11))
  (some ([.one (Cell.bool false)], r12.2))
  ((callL run_laws_toMade [.agg [Cell.str s1, c2, Cell.str s3]] []).bind fun r18 =>
  cond (shapeOk rk_laws_toMade r18.1)
  ((cS (cellsAt r18.1 0) 0).bind fun s19 =>
  (cC (cellsAt r18.1 0) 1).bind fun c20 =>
  (cS (cellsAt r18.1 0) 2).bind fun s21 =>
  emptyK r18.2
  ((callS run_laws_eqMade [.agg [Cell.str s13, c14, Cell.str s15], .agg [Cell.str s19, c20, Cell.str s21]] r12.2).bind fun r22 =>
  cond (shapeOk rk_laws_eqMade r22)
  ((cB (cellsAt r22 0) 0).bind fun b23 =>
  cond (!b23)
  (some ([.one (Cell.bool false)], r12.2))
  (some ([.one (Cell.bool true)], r12.2)))
  none))
  none))
  none)
  none)
  none)
  none))
  none
theorem laws_FnExactMadeOk_code (k m : Nat) (s1 : ByteArray) (c2 : Cell) (s3 : ByteArray) : evC G_laws_FnExactMadeOk fi_laws_FnExactMadeOk (evF G_laws_FnExactMadeOk (k + 1)) m fi_laws_FnExactMadeOk.code none (retK G_laws_FnExactMadeOk fi_laws_FnExactMadeOk) (enter fi_laws_FnExactMadeOk [.agg [Cell.str s1, c2, Cell.str s3]] []) = laws_FnExactMadeOk (k + 1) m s1 c2 s3 := by
  kernel_rfl
theorem laws_FnExactMadeOk_eq (k : Nat) (s1 : ByteArray) (c2 : Cell) (s3 : ByteArray) : evF G_laws_FnExactMadeOk (k + 2) fid_laws_FnExactMadeOk [.agg [Cell.str s1, c2, Cell.str s3]] [] = laws_FnExactMadeOk (k + 1) (k + 1) s1 c2 s3 :=
  Eq.trans (by kernel_rfl) (laws_FnExactMadeOk_code k (k + 1) s1 c2 s3)
theorem run_laws_FnExactMadeOk_of {s1 : ByteArray} {c2 : Cell} {s3 : ByteArray} {r : Res} (k : Nat) (h : laws_FnExactMadeOk (k + 1) (k + 1) s1 c2 s3 = some r) : run_laws_FnExactMadeOk [.agg [Cell.str s1, c2, Cell.str s3]] [] = some r := lim_of ((laws_FnExactMadeOk_eq k s1 c2 s3).trans h)
end Go.Ev
