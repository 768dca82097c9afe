/- Conditions: none. -/
import Derived.Test.YtholafaogipaiaaGreatDoorSh3
import Derived.KernelRfl
namespace Go.Ev
open Go Go.Proofs
set_option maxRecDepth 100000
set_option linter.unusedVariables false
set_option linter.unusedSimpArgs false
noncomputable def pl_fep : List (Nat × Run) := [(fid_feo, run_feo), (fid_feh, run_feh), (fid_fek, run_fek)]
noncomputable def G_fep : Ctx := ctx tyTab fiTab pl_fep
noncomputable def run_fep : Run := lim G_fep fid_fep
theorem ok_fep : FnOk Tryz.prog OkT fid_fep run_fep := lim_ok (l := pl_fep) Tryz_mix tyTab_ok fiTab_ok okT (.cons ok_feo (.cons ok_feh (.cons ok_fek .nil))) fid_fep
noncomputable def fep_l0 (k m : Nat) : Nat → ByteArray → ByteArray → Int → Int → Cell → Int → List Entry → Option Res
  | 0, _, _, _, _, _, _, _ => none
  | n + 1, s9, s10, i11, i12, c13, i14, H15 =>
    cond (decide (i14 < i12))
    ((callS run_fek [.one (Cell.str s9), .one (Cell.str s10)] H15).bind fun r16 =>
    cond (shapeOk rk_fek r16)
    ((cI .i64 (cellsAt r16 0) 0).bind fun i17 =>
    cond (decide (i17 < 0))
    ((idxA 1 (c13) i14).bind fun c18 =>
    (hStore H15 (c18) [Cell.str s9]).bind fun h19 =>
    (slcC 1 (c13) 0 (some (IntKind.i64.wrap (i14 + 1))) none).bind fun c20 =>
    some ([.one (c20)], h19))
    ((subS s9 0 (IntKind.i64.wrap (i17 + i11))).bind fun s21 =>
    (idxA 1 (c13) i14).bind fun c22 =>
    (hStore H15 (c22) [Cell.str s21]).bind fun h23 =>
    (subS s9 (IntKind.i64.wrap (i17 + (s10.size : Int))) (s9.size : Int)).bind fun s24 =>
    fep_l0 k m n s24 s10 i11 i12 (c13) (IntKind.i64.wrap (i14 + 1)) h23))
    none)
    ((idxA 1 (c13) i14).bind fun c25 =>
    (hStore H15 (c25) [Cell.str s9]).bind fun h26 =>
    (slcC 1 (c13) 0 (some (IntKind.i64.wrap (i14 + 1))) none).bind fun c27 =>
    some ([.one (c27)], h26))
noncomputable def fep (k m : Nat) (s1 : ByteArray) (s2 : ByteArray) (i3 : Int) (i4 : Int) : Option Res :=
  cond (i4 == 0)
  (some ([.one (.lst true 1 [])], []))
  (cond (s2.toList == (bs []).toList)
  ((callL run_feo [.one (Cell.str s1), .one (Cell.int i4)] []).bind fun r5 =>
  cond (shapeOk rk_feo r5.1)
  ((cC (cellsAt r5.1 0) 0).bind fun c6 =>
  some ([.one (c6)], r5.2))
  none)
  (cond (decide (i4 < 0))
  ((callS run_feh [.one (Cell.str s1), .one (Cell.str s2)] []).bind fun r7 =>
  cond (shapeOk rk_feh r7)
  ((cI .i64 (cellsAt r7 0) 0).bind fun i8 =>
  if 0 ≤ (if (IntKind.i64.wrap ((s1.size : Int) + 1)) < (IntKind.i64.wrap (i8 + 1)) then (IntKind.i64.wrap ((s1.size : Int) + 1)) else (IntKind.i64.wrap (i8 + 1))) ∧ (if (IntKind.i64.wrap ((s1.size : Int) + 1)) < (IntKind.i64.wrap (i8 + 1)) then (IntKind.i64.wrap ((s1.size : Int) + 1)) else (IntKind.i64.wrap (i8 + 1))) ≤ (if (IntKind.i64.wrap ((s1.size : Int) + 1)) < (IntKind.i64.wrap (i8 + 1)) then (IntKind.i64.wrap ((s1.size : Int) + 1)) else (IntKind.i64.wrap (i8 + 1))) ∧ (if (IntKind.i64.wrap ((s1.size : Int) + 1)) < (IntKind.i64.wrap (i8 + 1)) then (IntKind.i64.wrap ((s1.size : Int) + 1)) else (IntKind.i64.wrap (i8 + 1))) * 16 ≤ bound ∧ (if (IntKind.i64.wrap ((s1.size : Int) + 1)) < (IntKind.i64.wrap (i8 + 1)) then (IntKind.i64.wrap ((s1.size : Int) + 1)) else (IntKind.i64.wrap (i8 + 1))) ≤ bound then
  (fep_l0 k m m s1 s2 i3 (IntKind.i64.wrap ((if (IntKind.i64.wrap ((s1.size : Int) + 1)) < (IntKind.i64.wrap (i8 + 1)) then (IntKind.i64.wrap ((s1.size : Int) + 1)) else (IntKind.i64.wrap (i8 + 1))) - 1)) ((.vs 0 1 0 (if (IntKind.i64.wrap ((s1.size : Int) + 1)) < (IntKind.i64.wrap (i8 + 1)) then (IntKind.i64.wrap ((s1.size : Int) + 1)) else (IntKind.i64.wrap (i8 + 1))).toNat 0)) 0 [Entry.mk 1 (mkRows (if (IntKind.i64.wrap ((s1.size : Int) + 1)) < (IntKind.i64.wrap (i8 + 1)) then (IntKind.i64.wrap ((s1.size : Int) + 1)) else (IntKind.i64.wrap (i8 + 1))).toNat [Cell.str (bs [])]) 0 false]) else none)
  none)
  (if 0 ≤ (if (IntKind.i64.wrap ((s1.size : Int) + 1)) < i4 then (IntKind.i64.wrap ((s1.size : Int) + 1)) else i4) ∧ (if (IntKind.i64.wrap ((s1.size : Int) + 1)) < i4 then (IntKind.i64.wrap ((s1.size : Int) + 1)) else i4) ≤ (if (IntKind.i64.wrap ((s1.size : Int) + 1)) < i4 then (IntKind.i64.wrap ((s1.size : Int) + 1)) else i4) ∧ (if (IntKind.i64.wrap ((s1.size : Int) + 1)) < i4 then (IntKind.i64.wrap ((s1.size : Int) + 1)) else i4) * 16 ≤ bound ∧ (if (IntKind.i64.wrap ((s1.size : Int) + 1)) < i4 then (IntKind.i64.wrap ((s1.size : Int) + 1)) else i4) ≤ bound then
  (fep_l0 k m m s1 s2 i3 (IntKind.i64.wrap ((if (IntKind.i64.wrap ((s1.size : Int) + 1)) < i4 then (IntKind.i64.wrap ((s1.size : Int) + 1)) else i4) - 1)) ((.vs 0 1 0 (if (IntKind.i64.wrap ((s1.size : Int) + 1)) < i4 then (IntKind.i64.wrap ((s1.size : Int) + 1)) else i4).toNat 0)) 0 [Entry.mk 1 (mkRows (if (IntKind.i64.wrap ((s1.size : Int) + 1)) < i4 then (IntKind.i64.wrap ((s1.size : Int) + 1)) else i4).toNat [Cell.str (bs [])]) 0 false]) else none)))
noncomputable abbrev fep_l0_B (k m : Nat) : (Ex → Fr → Option Res) → Fr → Option Res := evC G_fep fi_fep (evF G_fep (k + 1)) m (sub [1, 1, 1, 1, 1, 1, 1, 1, 0, 2, 3] fi_fep.code) none
noncomputable abbrev fep_l0_K (k m : Nat) : Ex → Fr → Option Res := blockK 0 (seqK (evC G_fep fi_fep (evF G_fep (k + 1)) m (sub [1, 1, 1, 1, 1, 1, 1, 1, 1] fi_fep.code) none) (retK G_fep fi_fep))
theorem fep_l0_eq (k m : Nat) : ∀ (n : Nat) (s9 : ByteArray) (s10 : ByteArray) (i11 : Int) (i12 : Int) (c13 : Cell) (i14 : Int) (H15 : List Entry), loopK (some [0, 1, 2, 3, 9, 10]) (fep_l0_B k m) (fep_l0_K k m) n ⟨fT 66 0 [(0, .av (.one (Cell.str s9))), (1, .av (.one (Cell.str s10))), (2, .av (.one (Cell.int i11))), (3, .av (.one (Cell.int i12))), (9, .av (.one (c13))), (10, .av (.one (Cell.int i14)))], fX 66 0 [], H15⟩ = fep_l0 (k + 1) m n s9 s10 i11 i12 c13 i14 H15 := by
  intro n
  induction n with
  | zero => intros; rfl
  | succ n ih =>
    intros
    simp only [fep_l0, ← ih]
    kernel_rfl
theorem fep_code (k m : Nat) (s1 : ByteArray) (s2 : ByteArray) (i3 : Int) (i4 : Int) : evC G_fep fi_fep (evF G_fep (k + 1)) m fi_fep.code none (retK G_fep fi_fep) (enter fi_fep [.one (Cell.str s1), .one (Cell.str s2), .one (Cell.int i3), .one (Cell.int i4)] []) = fep (k + 1) m s1 s2 i3 i4 := by
  simp only [fep, ← fep_l0_eq k m]
  kernel_rfl
theorem fep_eq (k : Nat) (s1 : ByteArray) (s2 : ByteArray) (i3 : Int) (i4 : Int) : evF G_fep (k + 2) fid_fep [.one (Cell.str s1), .one (Cell.str s2), .one (Cell.int i3), .one (Cell.int i4)] [] = fep (k + 1) (k + 1) s1 s2 i3 i4 :=
  Eq.trans (by kernel_rfl) (fep_code k (k + 1) s1 s2 i3 i4)
theorem run_fep_of {s1 : ByteArray} {s2 : ByteArray} {i3 : Int} {i4 : Int} {r : Res} (k : Nat) (h : fep (k + 1) (k + 1) s1 s2 i3 i4 = some r) : run_fep [.one (Cell.str s1), .one (Cell.str s2), .one (Cell.int i3), .one (Cell.int i4)] [] = some r := lim_of ((fep_eq k s1 s2 i3 i4).trans h)
noncomputable def pl_fem : List (Nat × Run) := [(fid_fep, run_fep)]
noncomputable def G_fem : Ctx := ctx tyTab fiTab pl_fem
noncomputable def run_fem : Run := lim G_fem fid_fem
theorem ok_fem : FnOk Tryz.prog OkT fid_fem run_fem := lim_ok (l := pl_fem) Tryz_mix tyTab_ok fiTab_ok okT (.cons ok_fep .nil) fid_fem
noncomputable def fem (k m : Nat) (s1 : ByteArray) (s2 : ByteArray) : Option Res :=
  (callF run_fep [.one (Cell.str s1), .one (Cell.str s2), .one (Cell.int 0), .one (Cell.int (-1))] []).bind fun r3 =>
  cond (shapeOk rk_fep r3.1)
  ((cC (cellsAt r3.1 0) 0).bind fun c4 =>
  some ([.one (c4)], r3.2))
  none
theorem fem_code (k m : Nat) (s1 : ByteArray) (s2 : ByteArray) : evC G_fem fi_fem (evF G_fem (k + 1)) m fi_fem.code none (retK G_fem fi_fem) (enter fi_fem [.one (Cell.str s1), .one (Cell.str s2)] []) = fem (k + 1) m s1 s2 := by
  kernel_rfl
theorem fem_eq (k : Nat) (s1 : ByteArray) (s2 : ByteArray) : evF G_fem (k + 2) fid_fem [.one (Cell.str s1), .one (Cell.str s2)] [] = fem (k + 1) (k + 1) s1 s2 :=
  Eq.trans (by kernel_rfl) (fem_code k (k + 1) s1 s2)
theorem run_fem_of {s1 : ByteArray} {s2 : ByteArray} {r : Res} (k : Nat) (h : fem (k + 1) (k + 1) s1 s2 = some r) : run_fem [.one (Cell.str s1), .one (Cell.str s2)] [] = some r := lim_of ((fem_eq k s1 s2).trans h)
noncomputable def pl_fbk : List (Nat × Run) := []
noncomputable def G_fbk : Ctx := ctx tyTab fiTab pl_fbk
noncomputable def run_fbk : Run := lim G_fbk fid_fbk
theorem ok_fbk : FnOk Tryz.prog OkT fid_fbk run_fbk := lim_ok (l := pl_fbk) Tryz_mix tyTab_ok fiTab_ok okT .nil fid_fbk
noncomputable def pl_fbm : List (Nat × Run) := []
noncomputable def G_fbm : Ctx := ctx tyTab fiTab pl_fbm
noncomputable def run_fbm : Run := lim G_fbm fid_fbm
theorem ok_fbm : FnOk Tryz.prog OkT fid_fbm run_fbm := lim_ok (l := pl_fbm) Tryz_mix tyTab_ok fiTab_ok okT .nil fid_fbm
noncomputable def pl_fbl : List (Nat × Run) := [(fid_fbm, run_fbm)]
noncomputable def G_fbl : Ctx := ctx tyTab fiTab pl_fbl
noncomputable def run_fbl : Run := lim G_fbl fid_fbl
theorem ok_fbl : FnOk Tryz.prog OkT fid_fbl run_fbl := lim_ok (l := pl_fbl) Tryz_mix tyTab_ok fiTab_ok okT (.cons ok_fbm .nil) fid_fbl
noncomputable def pl_fbq : List (Nat × Run) := [(fid_fbr, run_fbr), (fid_fbk, run_fbk), (fid_fbl, run_fbl)]
noncomputable def G_fbq : Ctx := ctx tyTab fiTab pl_fbq
noncomputable def run_fbq : Run := lim G_fbq fid_fbq
theorem ok_fbq : FnOk Tryz.prog OkT fid_fbq run_fbq := lim_ok (l := pl_fbq) Tryz_mix tyTab_ok fiTab_ok okT (.cons ok_fbr (.cons ok_fbk (.cons ok_fbl .nil))) fid_fbq
noncomputable def fbq (k m : Nat) (s1 : ByteArray) (s2 : ByteArray) : Option Res :=
  cond ((s2.size : Int) == 0)
  (some ([.one (Cell.int 0)], []))
  (cond (s2.toList == s1.toList)
  (some ([.one (Cell.int 0)], []))
  (cond ((s2.size : Int) == 1)
  ((bytS s2 0).bind fun i3 =>
  (callS run_fbr [.one (Cell.str s1), .one (.sc (.int .u8 i3))] []).bind fun r4 =>
  cond (shapeOk rk_fbr r4)
  ((cI .i64 (cellsAt r4 0) 0).bind fun i5 =>
  some ([.one (Cell.int i5)], []))
  none)
  (cond (decide ((s2.size : Int) ≥ (s1.size : Int)))
  (some ([.one (Cell.int (-1))], []))
  (none))))
theorem fbq_code (k m : Nat) (s1 : ByteArray) (s2 : ByteArray) : evC G_fbq fi_fbq (evF G_fbq (k + 1)) m fi_fbq.code none (retK G_fbq fi_fbq) (enter fi_fbq [.one (Cell.str s1), .one (Cell.str s2)] []) = fbq (k + 1) m s1 s2 := by
  kernel_rfl
theorem fbq_eq (k : Nat) (s1 : ByteArray) (s2 : ByteArray) : evF G_fbq (k + 2) fid_fbq [.one (Cell.str s1), .one (Cell.str s2)] [] = fbq (k + 1) (k + 1) s1 s2 :=
  Eq.trans (by kernel_rfl) (fbq_code k (k + 1) s1 s2)
theorem run_fbq_of {s1 : ByteArray} {s2 : ByteArray} {r : Res} (k : Nat) (h : fbq (k + 1) (k + 1) s1 s2 = some r) : run_fbq [.one (Cell.str s1), .one (Cell.str s2)] [] = some r := lim_of ((fbq_eq k s1 s2).trans h)
noncomputable def pl_fbn : List (Nat × Run) := [(fid_fbq, run_fbq)]
noncomputable def G_fbn : Ctx := ctx tyTab fiTab pl_fbn
noncomputable def run_fbn : Run := lim G_fbn fid_fbn
theorem ok_fbn : FnOk Tryz.prog OkT fid_fbn run_fbn := lim_ok (l := pl_fbn) Tryz_mix tyTab_ok fiTab_ok okT (.cons ok_fbq .nil) fid_fbn
noncomputable def fbn (k m : Nat) (s1 : ByteArray) (s2 : ByteArray) : Option Res :=
  (callS run_fbq [.one (Cell.str s1), .one (Cell.str s2)] []).bind fun r3 =>
  cond (shapeOk rk_fbq r3)
  ((cI .i64 (cellsAt r3 0) 0).bind fun i4 =>
  cond (decide (i4 ≥ 0))
  ((subS s1 0 i4).bind fun s5 =>
  (subS s1 (IntKind.i64.wrap (i4 + (s2.size : Int))) (s1.size : Int)).bind fun s6 =>
  some ([.one (Cell.str s5), .one (Cell.str s6), .one (Cell.bool true)], []))
  (some ([.one (Cell.str s1), .one (Cell.str (bs [])), .one (Cell.bool false)], [])))
  none
theorem fbn_code (k m : Nat) (s1 : ByteArray) (s2 : ByteArray) : evC G_fbn fi_fbn (evF G_fbn (k + 1)) m fi_fbn.code none (retK G_fbn fi_fbn) (enter fi_fbn [.one (Cell.str s1), .one (Cell.str s2)] []) = fbn (k + 1) m s1 s2 := by
  kernel_rfl
theorem fbn_eq (k : Nat) (s1 : ByteArray) (s2 : ByteArray) : evF G_fbn (k + 2) fid_fbn [.one (Cell.str s1), .one (Cell.str s2)] [] = fbn (k + 1) (k + 1) s1 s2 :=
  Eq.trans (by kernel_rfl) (fbn_code k (k + 1) s1 s2)
theorem run_fbn_of {s1 : ByteArray} {s2 : ByteArray} {r : Res} (k : Nat) (h : fbn (k + 1) (k + 1) s1 s2 = some r) : run_fbn [.one (Cell.str s1), .one (Cell.str s2)] [] = some r := lim_of ((fbn_eq k s1 s2).trans h)
noncomputable def pl_fei : List (Nat × Run) := [(fid_fbn, run_fbn)]
noncomputable def G_fei : Ctx := ctx tyTab fiTab pl_fei
noncomputable def run_fei : Run := lim G_fei fid_fei
theorem ok_fei : FnOk Tryz.prog OkT fid_fei run_fei := lim_ok (l := pl_fei) Tryz_mix tyTab_ok fiTab_ok okT (.cons ok_fbn .nil) fid_fei
noncomputable def fei (k m : Nat) (s1 : ByteArray) (s2 : ByteArray) : Option Res :=
  (callS run_fbn [.one (Cell.str s1), .one (Cell.str s2)] []).bind fun r3 =>
  cond (shapeOk rk_fbn r3)
  ((cS (cellsAt r3 0) 0).bind fun s4 =>
  (cS (cellsAt r3 1) 0).bind fun s5 =>
  (cB (cellsAt r3 2) 0).bind fun b6 =>
  some ([.one (Cell.str s4), .one (Cell.str s5), .one (Cell.bool b6)], []))
  none
theorem fei_code (k m : Nat) (s1 : ByteArray) (s2 : ByteArray) : evC G_fei fi_fei (evF G_fei (k + 1)) m fi_fei.code none (retK G_fei fi_fei) (enter fi_fei [.one (Cell.str s1), .one (Cell.str s2)] []) = fei (k + 1) m s1 s2 := by
  kernel_rfl
theorem fei_eq (k : Nat) (s1 : ByteArray) (s2 : ByteArray) : evF G_fei (k + 2) fid_fei [.one (Cell.str s1), .one (Cell.str s2)] [] = fei (k + 1) (k + 1) s1 s2 :=
  Eq.trans (by kernel_rfl) (fei_code k (k + 1) s1 s2)
theorem run_fei_of {s1 : ByteArray} {s2 : ByteArray} {r : Res} (k : Nat) (h : fei (k + 1) (k + 1) s1 s2 = some r) : run_fei [.one (Cell.str s1), .one (Cell.str s2)] [] = some r := lim_of ((fei_eq k s1 s2).trans h)
noncomputable def pl_fax : List (Nat × Run) := []
noncomputable def G_fax : Ctx := ctx tyTab fiTab pl_fax
noncomputable def run_fax : Run := lim G_fax fid_fax
theorem ok_fax : FnOk Tryz.prog OkT fid_fax run_fax := lim_ok (l := pl_fax) Tryz_mix tyTab_ok fiTab_ok okT .nil fid_fax
noncomputable def fax (k m : Nat) (i1 : Int) (i2 : Int) (i3 : Int) : Option Res :=
  cond (decide (i1 ≥ i2))
  (some ([.one (Cell.bool (decide (i1 ≤ i3)))], []))
  (some ([.one (Cell.bool false)], []))
theorem fax_code (k m : Nat) (i1 : Int) (i2 : Int) (i3 : Int) : evC G_fax fi_fax (evF G_fax (k + 1)) m fi_fax.code none (retK G_fax fi_fax) (enter fi_fax [.one (Cell.int i1), .one (Cell.int i2), .one (Cell.int i3)] []) = fax (k + 1) m i1 i2 i3 := by
  kernel_rfl
theorem fax_eq (k : Nat) (i1 : Int) (i2 : Int) (i3 : Int) : evF G_fax (k + 2) fid_fax [.one (Cell.int i1), .one (Cell.int i2), .one (Cell.int i3)] [] = fax (k + 1) (k + 1) i1 i2 i3 :=
  Eq.trans (by kernel_rfl) (fax_code k (k + 1) i1 i2 i3)
theorem run_fax_of {i1 : Int} {i2 : Int} {i3 : Int} {r : Res} (k : Nat) (h : fax (k + 1) (k + 1) i1 i2 i3 = some r) : run_fax [.one (Cell.int i1), .one (Cell.int i2), .one (Cell.int i3)] [] = some r := lim_of ((fax_eq k i1 i2 i3).trans h)
noncomputable def pl_fay : List (Nat × Run) := []
noncomputable def G_fay : Ctx := ctx tyTab fiTab pl_fay
noncomputable def run_fay : Run := lim G_fay fid_fay
theorem ok_fay : FnOk Tryz.prog OkT fid_fay run_fay := lim_ok (l := pl_fay) Tryz_mix tyTab_ok fiTab_ok okT .nil fid_fay
noncomputable def fay (k m : Nat) (i1 : Int) : Option Res :=
  cond (decide (i1 ≥ 48))
  (some ([.one (Cell.bool (decide (i1 ≤ 57)))], []))
  (some ([.one (Cell.bool false)], []))
theorem fay_code (k m : Nat) (i1 : Int) : evC G_fay fi_fay (evF G_fay (k + 1)) m fi_fay.code none (retK G_fay fi_fay) (enter fi_fay [.one (.sc (.int .u8 i1))] []) = fay (k + 1) m i1 := by
  kernel_rfl
theorem fay_eq (k : Nat) (i1 : Int) : evF G_fay (k + 2) fid_fay [.one (.sc (.int .u8 i1))] [] = fay (k + 1) (k + 1) i1 :=
  Eq.trans (by kernel_rfl) (fay_code k (k + 1) i1)
theorem run_fay_of {i1 : Int} {r : Res} (k : Nat) (h : fay (k + 1) (k + 1) i1 = some r) : run_fay [.one (.sc (.int .u8 i1))] [] = some r := lim_of ((fay_eq k i1).trans h)
noncomputable def pl_fai : List (Nat × Run) := [(fid_feg, run_feg)]
noncomputable def G_fai : Ctx := ctx tyTab fiTab pl_fai
noncomputable def run_fai : Run := lim G_fai fid_fai
theorem ok_fai : FnOk Tryz.prog OkT fid_fai run_fai := lim_ok (l := pl_fai) Tryz_mix tyTab_ok fiTab_ok okT (.cons ok_feg .nil) fid_fai
noncomputable def fai (k m : Nat) (i1 : Int) : Option Res :=
  (callS run_feg [.one (Cell.int (if i1 < 0 then 0 else i1))] []).bind fun r2 =>
  cond (shapeOk rk_feg r2)
  ((cS (cellsAt r2 0) 0).bind fun s3 =>
  some ([.one (Cell.str s3)], []))
  none
theorem fai_code (k m : Nat) (i1 : Int) : evC G_fai fi_fai (evF G_fai (k + 1)) m fi_fai.code none (retK G_fai fi_fai) (enter fi_fai [.one (Cell.int i1)] []) = fai (k + 1) m i1 := by
  kernel_rfl
theorem fai_eq (k : Nat) (i1 : Int) : evF G_fai (k + 2) fid_fai [.one (Cell.int i1)] [] = fai (k + 1) (k + 1) i1 :=
  Eq.trans (by kernel_rfl) (fai_code k (k + 1) i1)
theorem run_fai_of {i1 : Int} {r : Res} (k : Nat) (h : fai (k + 1) (k + 1) i1 = some r) : run_fai [.one (Cell.int i1)] [] = some r := lim_of ((fai_eq k i1).trans h)
noncomputable def pl_faj : List (Nat × Run) := [(fid_fax, run_fax), (fid_fay, run_fay), (fid_fai, run_fai)]
noncomputable def G_faj : Ctx := ctx tyTab fiTab pl_faj
noncomputable def run_faj : Run := lim G_faj fid_faj
theorem ok_faj : FnOk Tryz.prog OkT fid_faj run_faj := lim_ok (l := pl_faj) Tryz_mix tyTab_ok fiTab_ok okT (.cons ok_fax (.cons ok_fay (.cons ok_fai .nil))) fid_faj
noncomputable def faj_l0 (k m : Nat) : Nat → ByteArray → Int → Int → Int → Option Res
  | 0, _, _, _, _ => none
  | n + 1, s5, i6, i7, i8 =>
    cond (decide (i8 < (s5.size : Int)))
    ((bytS s5 i8).bind fun i9 =>
    (callS run_fay [.one (.sc (.int .u8 i9))] []).bind fun r10 =>
    cond (shapeOk rk_fay r10)
    ((cB (cellsAt r10 0) 0).bind fun b11 =>
    cond (!b11)
    (some ([.one (Cell.int 0), .one (Cell.bool false)], []))
    ((bytS s5 i8).bind fun i12 =>
    faj_l0 k m n s5 i6 (IntKind.i64.wrap ((IntKind.i64.wrap (i7 * 10)) + (IntKind.i64.wrap (IntKind.u8.wrap (i12 - 48))))) (IntKind.i64.wrap (i8 + 1))))
    none)
    ((callS run_fai [.one (Cell.int i7)] []).bind fun r13 =>
    cond (shapeOk rk_fai r13)
    ((cS (cellsAt r13 0) 0).bind fun s14 =>
    cond (!(s14.toList == s5.toList))
    (some ([.one (Cell.int 0), .one (Cell.bool false)], []))
    (cond (decide (i7 > i6))
    (some ([.one (Cell.int 0), .one (Cell.bool false)], []))
    (some ([.one (Cell.int i7), .one (Cell.bool true)], []))))
    none)
noncomputable def faj (k m : Nat) (s1 : ByteArray) (i2 : Int) : Option Res :=
  (callS run_fax [.one (Cell.int (s1.size : Int)), .one (Cell.int 1), .one (Cell.int 7)] []).bind fun r3 =>
  cond (shapeOk rk_fax r3)
  ((cB (cellsAt r3 0) 0).bind fun b4 =>
  cond (!b4)
  (some ([.one (Cell.int 0), .one (Cell.bool false)], []))
  (faj_l0 k m m s1 i2 0 0))
  none
noncomputable abbrev faj_l0_B (k m : Nat) : (Ex → Fr → Option Res) → Fr → Option Res := evC G_faj fi_faj (evF G_faj (k + 1)) m (sub [1, 1, 1, 0, 1, 2, 3] fi_faj.code) none
noncomputable abbrev faj_l0_K (k m : Nat) : Ex → Fr → Option Res := blockK 0 (seqK (evC G_faj fi_faj (evF G_faj (k + 1)) m (sub [1, 1, 1, 1] fi_faj.code) none) (retK G_faj fi_faj))
theorem faj_l0_eq (k m : Nat) : ∀ (n : Nat) (s5 : ByteArray) (i6 : Int) (i7 : Int) (i8 : Int), loopK (some [0, 1, 6, 7]) (faj_l0_B k m) (faj_l0_K k m) n ⟨fT 41 0 [(0, .av (.one (Cell.str s5))), (1, .av (.one (Cell.int i6))), (6, .av (.one (Cell.int i7))), (7, .av (.one (Cell.int i8)))], fX 41 0 [], []⟩ = faj_l0 (k + 1) m n s5 i6 i7 i8 := by
  intro n
  induction n with
  | zero => intros; rfl
  | succ n ih =>
    intros
    simp only [faj_l0, ← ih]
    kernel_rfl
theorem faj_code (k m : Nat) (s1 : ByteArray) (i2 : Int) : evC G_faj fi_faj (evF G_faj (k + 1)) m fi_faj.code none (retK G_faj fi_faj) (enter fi_faj [.one (Cell.str s1), .one (Cell.int i2)] []) = faj (k + 1) m s1 i2 := by
  simp only [faj, ← faj_l0_eq k m]
  kernel_rfl
theorem faj_eq (k : Nat) (s1 : ByteArray) (i2 : Int) : evF G_faj (k + 2) fid_faj [.one (Cell.str s1), .one (Cell.int i2)] [] = faj (k + 1) (k + 1) s1 i2 :=
  Eq.trans (by kernel_rfl) (faj_code k (k + 1) s1 i2)
theorem run_faj_of {s1 : ByteArray} {i2 : Int} {r : Res} (k : Nat) (h : faj (k + 1) (k + 1) s1 i2 = some r) : run_faj [.one (Cell.str s1), .one (Cell.int i2)] [] = some r := lim_of ((faj_eq k s1 i2).trans h)
noncomputable def pl_fba : List (Nat × Run) := []
noncomputable def G_fba : Ctx := ctx tyTab fiTab pl_fba
noncomputable def run_fba : Run := lim G_fba fid_fba
theorem ok_fba : FnOk Tryz.prog OkT fid_fba run_fba := lim_ok (l := pl_fba) Tryz_mix tyTab_ok fiTab_ok okT .nil fid_fba
noncomputable def fba (k m : Nat) (i1 : Int) : Option Res :=
  cond (decide (i1 ≥ 97))
  (some ([.one (Cell.bool (decide (i1 ≤ 122)))], []))
  (some ([.one (Cell.bool false)], []))
theorem fba_code (k m : Nat) (i1 : Int) : evC G_fba fi_fba (evF G_fba (k + 1)) m fi_fba.code none (retK G_fba fi_fba) (enter fi_fba [.one (.sc (.int .u8 i1))] []) = fba (k + 1) m i1 := by
  kernel_rfl
theorem fba_eq (k : Nat) (i1 : Int) : evF G_fba (k + 2) fid_fba [.one (.sc (.int .u8 i1))] [] = fba (k + 1) (k + 1) i1 :=
  Eq.trans (by kernel_rfl) (fba_code k (k + 1) i1)
theorem run_fba_of {i1 : Int} {r : Res} (k : Nat) (h : fba (k + 1) (k + 1) i1 = some r) : run_fba [.one (.sc (.int .u8 i1))] [] = some r := lim_of ((fba_eq k i1).trans h)
noncomputable def pl_faz : List (Nat × Run) := [(fid_fay, run_fay)]
noncomputable def G_faz : Ctx := ctx tyTab fiTab pl_faz
noncomputable def run_faz : Run := lim G_faz fid_faz
theorem ok_faz : FnOk Tryz.prog OkT fid_faz run_faz := lim_ok (l := pl_faz) Tryz_mix tyTab_ok fiTab_ok okT (.cons ok_fay .nil) fid_faz
noncomputable def faz_l0 (k m : Nat) : Nat → ByteArray → Int → Option Res
  | 0, _, _ => none
  | n + 1, s2, i3 =>
    cond (decide (i3 < (s2.size : Int)))
    ((bytS s2 i3).bind fun i4 =>
    (callS run_fay [.one (.sc (.int .u8 i4))] []).bind fun r5 =>
    cond (shapeOk rk_fay r5)
    ((cB (cellsAt r5 0) 0).bind fun b6 =>
    cond (!b6)
    (some ([.one (Cell.bool false)], []))
    (faz_l0 k m n s2 (IntKind.i64.wrap (i3 + 1))))
    none)
    (some ([.one (Cell.bool (!(s2.toList == (bs []).toList)))], []))
noncomputable def faz (k m : Nat) (s1 : ByteArray) : Option Res :=
  faz_l0 k m m s1 0
noncomputable abbrev faz_l0_B (k m : Nat) : (Ex → Fr → Option Res) → Fr → Option Res := evC G_faz fi_faz (evF G_faz (k + 1)) m (sub [1, 0, 1, 2, 3] fi_faz.code) none
noncomputable abbrev faz_l0_K (k m : Nat) : Ex → Fr → Option Res := blockK 0 (seqK (evC G_faz fi_faz (evF G_faz (k + 1)) m (sub [1, 1] fi_faz.code) none) (retK G_faz fi_faz))
theorem faz_l0_eq (k m : Nat) : ∀ (n : Nat) (s2 : ByteArray) (i3 : Int), loopK (some [0, 3]) (faz_l0_B k m) (faz_l0_K k m) n ⟨fT 17 0 [(0, .av (.one (Cell.str s2))), (3, .av (.one (Cell.int i3)))], fX 17 0 [], []⟩ = faz_l0 (k + 1) m n s2 i3 := by
  intro n
  induction n with
  | zero => intros; rfl
  | succ n ih =>
    intros
    simp only [faz_l0, ← ih]
    kernel_rfl
theorem faz_code (k m : Nat) (s1 : ByteArray) : evC G_faz fi_faz (evF G_faz (k + 1)) m fi_faz.code none (retK G_faz fi_faz) (enter fi_faz [.one (Cell.str s1)] []) = faz (k + 1) m s1 := by
  simp only [faz, ← faz_l0_eq k m]
  kernel_rfl
theorem faz_eq (k : Nat) (s1 : ByteArray) : evF G_faz (k + 2) fid_faz [.one (Cell.str s1)] [] = faz (k + 1) (k + 1) s1 :=
  Eq.trans (by kernel_rfl) (faz_code k (k + 1) s1)
theorem run_faz_of {s1 : ByteArray} {r : Res} (k : Nat) (h : faz (k + 1) (k + 1) s1 = some r) : run_faz [.one (Cell.str s1)] [] = some r := lim_of ((faz_eq k s1).trans h)
noncomputable def pl_fbh : List (Nat × Run) := [(fid_fax, run_fax), (fid_fba, run_fba), (fid_fay, run_fay), (fid_faz, run_faz)]
noncomputable def G_fbh : Ctx := ctx tyTab fiTab pl_fbh
noncomputable def run_fbh : Run := lim G_fbh fid_fbh
theorem ok_fbh : FnOk Tryz.prog OkT fid_fbh run_fbh := lim_ok (l := pl_fbh) Tryz_mix tyTab_ok fiTab_ok okT (.cons ok_fax (.cons ok_fba (.cons ok_fay (.cons ok_faz .nil)))) fid_fbh
noncomputable def fbh_l0 (k m : Nat) : Nat → ByteArray → Int → Option Res
  | 0, _, _ => none
  | n + 1, s2, i3 =>
    cond (decide (i3 < (s2.size : Int)))
    ((bytS s2 i3).bind fun i4 =>
    (callS run_fba [.one (.sc (.int .u8 i4))] []).bind fun r5 =>
    cond (shapeOk rk_fba r5)
    ((cB (cellsAt r5 0) 0).bind fun b6 =>
    cond (!b6)
    (cond (decide (i4 ≥ 65))
    (cond (!(decide (i4 ≤ 90)))
    ((callS run_fay [.one (.sc (.int .u8 i4))] []).bind fun r7 =>
    cond (shapeOk rk_fay r7)
    ((cB (cellsAt r7 0) 0).bind fun b8 =>
    cond (!b8)
    (cond (i4 != 45)
    (some ([.one (Cell.bool false)], []))
    (fbh_l0 k m n s2 (IntKind.i64.wrap (i3 + 1))))
    (fbh_l0 k m n s2 (IntKind.i64.wrap (i3 + 1))))
    none)
    (fbh_l0 k m n s2 (IntKind.i64.wrap (i3 + 1))))
    ((callS run_fay [.one (.sc (.int .u8 i4))] []).bind fun r9 =>
    cond (shapeOk rk_fay r9)
    ((cB (cellsAt r9 0) 0).bind fun b10 =>
    cond (!b10)
    (cond (i4 != 45)
    (some ([.one (Cell.bool false)], []))
    (fbh_l0 k m n s2 (IntKind.i64.wrap (i3 + 1))))
    (fbh_l0 k m n s2 (IntKind.i64.wrap (i3 + 1))))
    none))
    (fbh_l0 k m n s2 (IntKind.i64.wrap (i3 + 1))))
    none)
    ((callS run_fax [.one (Cell.int (s2.size : Int)), .one (Cell.int 1), .one (Cell.int 8)] []).bind fun r11 =>
    cond (shapeOk rk_fax r11)
    ((cB (cellsAt r11 0) 0).bind fun b12 =>
    cond b12
    ((callS run_faz [.one (Cell.str s2)] []).bind fun r13 =>
    cond (shapeOk rk_faz r13)
    ((cB (cellsAt r13 0) 0).bind fun b14 =>
    cond (!b14)
    (some ([.one (Cell.bool true)], []))
    (cond (s2.toList == (bs [48]).toList)
    (some ([.one (Cell.bool true)], []))
    ((bytS s2 0).bind fun i15 =>
    some ([.one (Cell.bool (i15 != 48))], []))))
    none)
    (some ([.one (Cell.bool false)], [])))
    none)
noncomputable def fbh (k m : Nat) (s1 : ByteArray) : Option Res :=
  fbh_l0 k m m s1 0
noncomputable abbrev fbh_l0_B (k m : Nat) : (Ex → Fr → Option Res) → Fr → Option Res := evC G_fbh fi_fbh (evF G_fbh (k + 1)) m (sub [1, 0, 1, 2, 3] fi_fbh.code) none
noncomputable abbrev fbh_l0_K (k m : Nat) : Ex → Fr → Option Res := blockK 0 (seqK (evC G_fbh fi_fbh (evF G_fbh (k + 1)) m (sub [1, 1] fi_fbh.code) none) (retK G_fbh fi_fbh))
theorem fbh_l0_eq (k m : Nat) : ∀ (n : Nat) (s2 : ByteArray) (i3 : Int), loopK (some [0, 3]) (fbh_l0_B k m) (fbh_l0_K k m) n ⟨fT 52 0 [(0, .av (.one (Cell.str s2))), (3, .av (.one (Cell.int i3)))], fX 52 0 [], []⟩ = fbh_l0 (k + 1) m n s2 i3 := by
  intro n
  induction n with
  | zero => intros; rfl
  | succ n ih =>
    intros
    simp only [fbh_l0, ← ih]
    kernel_rfl
theorem fbh_code (k m : Nat) (s1 : ByteArray) : evC G_fbh fi_fbh (evF G_fbh (k + 1)) m fi_fbh.code none (retK G_fbh fi_fbh) (enter fi_fbh [.one (Cell.str s1)] []) = fbh (k + 1) m s1 := by
  simp only [fbh, ← fbh_l0_eq k m]
  kernel_rfl
theorem fbh_eq (k : Nat) (s1 : ByteArray) : evF G_fbh (k + 2) fid_fbh [.one (Cell.str s1)] [] = fbh (k + 1) (k + 1) s1 :=
  Eq.trans (by kernel_rfl) (fbh_code k (k + 1) s1)
theorem run_fbh_of {s1 : ByteArray} {r : Res} (k : Nat) (h : fbh (k + 1) (k + 1) s1 = some r) : run_fbh [.one (Cell.str s1)] [] = some r := lim_of ((fbh_eq k s1).trans h)
noncomputable def pl_fao : List (Nat × Run) := [(fid_fax, run_fax), (fid_fbh, run_fbh)]
noncomputable def G_fao : Ctx := ctx tyTab fiTab pl_fao
noncomputable def run_fao : Run := lim G_fao fid_fao
theorem ok_fao : FnOk Tryz.prog OkT fid_fao run_fao := lim_ok (l := pl_fao) Tryz_mix tyTab_ok fiTab_ok okT (.cons ok_fax (.cons ok_fbh .nil)) fid_fao
noncomputable def fao_l0 (k m : Nat) : Nat → Cell → Int → Int → Int → Int → Int → Cell → Option Res
  | 0, _, _, _, _, _, _, _ => none
  | n + 1, c6, i7, i8, i9, i10, i11, c12 =>
    cond (decide (i8 < i7))
    ((idxA 1 (c6) i8).bind fun c13 =>
    (deref [] (c13)).bind fun p14 =>
    (cS p14.1 p14.2).bind fun s15 =>
    (callS run_fbh [.one (Cell.str s15)] []).bind fun r16 =>
    cond (shapeOk rk_fbh r16)
    ((cB (cellsAt r16 0) 0).bind fun b17 =>
    cond (!b17)
    (some ([.one (Cell.bool false)], []))
    (fao_l0 k m n (c6) i7 (IntKind.i64.wrap (i8 + 1)) i9 i10 i11 (c12)))
    none)
    ((callS run_fax [.one (Cell.int i9), .one (Cell.int 0), .one (Cell.int 9999)] []).bind fun r18 =>
    cond (shapeOk rk_fax r18)
    ((cB (cellsAt r18 0) 0).bind fun b19 =>
    cond b19
    ((callS run_fax [.one (Cell.int i10), .one (Cell.int 0), .one (Cell.int 9999)] []).bind fun r20 =>
    cond (shapeOk rk_fax r20)
    ((cB (cellsAt r20 0) 0).bind fun b21 =>
    cond b21
    ((callS run_fax [.one (Cell.int i11), .one (Cell.int 0), .one (Cell.int 9999)] []).bind fun r22 =>
    cond (shapeOk rk_fax r22)
    ((cB (cellsAt r22 0) 0).bind fun b23 =>
    cond b23
    ((lenC c12).bind fun n24 =>
    some ([.one (Cell.bool (decide ((n24 : Int) ≤ 3)))], []))
    (some ([.one (Cell.bool false)], [])))
    none)
    (some ([.one (Cell.bool false)], [])))
    none)
    (some ([.one (Cell.bool false)], [])))
    none)
noncomputable def fao (k m : Nat) (i1 : Int) (i2 : Int) (i3 : Int) (c4 : Cell) : Option Res :=
  (lenC c4).bind fun n5 =>
  fao_l0 k m m (c4) (n5 : Int) 0 i1 i2 i3 (c4)
noncomputable abbrev fao_l0_B (k m : Nat) : (Ex → Fr → Option Res) → Fr → Option Res := evC G_fao fi_fao (evF G_fao (k + 1)) m (sub [1, 0, 1, 2, 3] fi_fao.code) none
noncomputable abbrev fao_l0_K (k m : Nat) : Ex → Fr → Option Res := blockK 0 (seqK (evC G_fao fi_fao (evF G_fao (k + 1)) m (sub [1, 1] fi_fao.code) none) (retK G_fao fi_fao))
theorem fao_l0_eq (k m : Nat) : ∀ (n : Nat) (c6 : Cell) (i7 : Int) (i8 : Int) (i9 : Int) (i10 : Int) (i11 : Int) (c12 : Cell), loopK (some [1, 6, 7, 8]) (fao_l0_B k m) (fao_l0_K k m) n ⟨fT 35 0 [(1, .loc 1 0), (6, .av (.one (c6))), (7, .av (.one (Cell.int i7))), (8, .av (.one (Cell.int i8)))], fX 35 0 [(1, [Cell.int i9, Cell.int i10, Cell.int i11, c12])], []⟩ = fao_l0 (k + 1) m n c6 i7 i8 i9 i10 i11 c12 := by
  intro n
  induction n with
  | zero => intros; rfl
  | succ n ih =>
    intros
    simp only [fao_l0, ← ih]
    kernel_rfl
theorem fao_code (k m : Nat) (i1 : Int) (i2 : Int) (i3 : Int) (c4 : Cell) : evC G_fao fi_fao (evF G_fao (k + 1)) m fi_fao.code none (retK G_fao fi_fao) (enter fi_fao [.agg [Cell.int i1, Cell.int i2, Cell.int i3, c4]] []) = fao (k + 1) m i1 i2 i3 c4 := by
  simp only [fao, ← fao_l0_eq k m]
  kernel_rfl
theorem fao_eq (k : Nat) (i1 : Int) (i2 : Int) (i3 : Int) (c4 : Cell) : evF G_fao (k + 2) fid_fao [.agg [Cell.int i1, Cell.int i2, Cell.int i3, c4]] [] = fao (k + 1) (k + 1) i1 i2 i3 c4 :=
  Eq.trans (by kernel_rfl) (fao_code k (k + 1) i1 i2 i3 c4)
theorem run_fao_of {i1 : Int} {i2 : Int} {i3 : Int} {c4 : Cell} {r : Res} (k : Nat) (h : fao (k + 1) (k + 1) i1 i2 i3 c4 = some r) : run_fao [.agg [Cell.int i1, Cell.int i2, Cell.int i3, c4]] [] = some r := lim_of ((fao_eq k i1 i2 i3 c4).trans h)
noncomputable def pl_fap : List (Nat × Run) := [(fid_fao, run_fao), (fid_fai, run_fai), (fid_fel, run_fel)]
noncomputable def G_fap : Ctx := ctx tyTab fiTab pl_fap
noncomputable def run_fap : Run := lim G_fap fid_fap
theorem ok_fap : FnOk Tryz.prog OkT fid_fap run_fap := lim_ok (l := pl_fap) Tryz_mix tyTab_ok fiTab_ok okT (.cons ok_fao (.cons ok_fai (.cons ok_fel .nil))) fid_fap
noncomputable def fap (k m : Nat) (i1 : Int) (i2 : Int) (i3 : Int) (c4 : Cell) : Option Res :=
  (callS run_fao [.agg [Cell.int i1, Cell.int i2, Cell.int i3, c4]] []).bind fun r5 =>
  cond (shapeOk rk_fao r5)
  ((cB (cellsAt r5 0) 0).bind fun b6 =>
  cond (!b6)
  (some ([.one (Cell.str (bs []))], []))
  ((callS run_fai [.one (Cell.int i1)] []).bind fun r7 =>
  cond (shapeOk rk_fai r7)
  ((cS (cellsAt r7 0) 0).bind fun s8 =>
  (catS s8 (bs [46])).bind fun s9 =>
  (callS run_fai [.one (Cell.int i2)] []).bind fun r10 =>
  cond (shapeOk rk_fai r10)
  ((cS (cellsAt r10 0) 0).bind fun s11 =>
  (catS s9 s11).bind fun s12 =>
  (catS s12 (bs [46])).bind fun s13 =>
  (callS run_fai [.one (Cell.int i3)] []).bind fun r14 =>
  cond (shapeOk rk_fai r14)
  ((cS (cellsAt r14 0) 0).bind fun s15 =>
  (catS s13 s15).bind fun s16 =>
  (lenC c4).bind fun n17 =>
  cond (decide ((n17 : Int) > 0))
  ((callS run_fel [.one (c4), .one (Cell.str (bs [46]))] []).bind fun r18 =>
  cond (shapeOk rk_fel r18)
  ((cS (cellsAt r18 0) 0).bind fun s19 =>
  (catS (bs [45]) s19).bind fun s20 =>
  (catS s16 s20).bind fun s21 =>
  some ([.one (Cell.str s21)], []))
  none)
  (some ([.one (Cell.str s16)], [])))
  none)
  none)
  none))
  none
theorem fap_code (k m : Nat) (i1 : Int) (i2 : Int) (i3 : Int) (c4 : Cell) : evC G_fap fi_fap (evF G_fap (k + 1)) m fi_fap.code none (retK G_fap fi_fap) (enter fi_fap [.agg [Cell.int i1, Cell.int i2, Cell.int i3, c4]] []) = fap (k + 1) m i1 i2 i3 c4 := by
  kernel_rfl
theorem fap_eq (k : Nat) (i1 : Int) (i2 : Int) (i3 : Int) (c4 : Cell) : evF G_fap (k + 2) fid_fap [.agg [Cell.int i1, Cell.int i2, Cell.int i3, c4]] [] = fap (k + 1) (k + 1) i1 i2 i3 c4 :=
  Eq.trans (by kernel_rfl) (fap_code k (k + 1) i1 i2 i3 c4)
theorem run_fap_of {i1 : Int} {i2 : Int} {i3 : Int} {c4 : Cell} {r : Res} (k : Nat) (h : fap (k + 1) (k + 1) i1 i2 i3 c4 = some r) : run_fap [.agg [Cell.int i1, Cell.int i2, Cell.int i3, c4]] [] = some r := lim_of ((fap_eq k i1 i2 i3 c4).trans h)
end Go.Ev
