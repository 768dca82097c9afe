/- What the evaluator says of the functions, each as a Lean function over cells. Printed by a program of this claim. Conditions: none. -/
import Derived.Test.YtiocamjonchabaaDoorSh0
import Derived.KernelRfl
namespace Go.Ev
open Go Go.Proofs
set_option maxRecDepth 100000
set_option linter.unusedVariables false
set_option linter.unusedSimpArgs false
noncomputable def pl_laws_toEnvS : List (Nat × Run) := [(fid_laws_toEnv, run_laws_toEnv)]
noncomputable def G_laws_toEnvS : Ctx := ctx tyTab fiTab pl_laws_toEnvS
noncomputable def run_laws_toEnvS : Run := lim G_laws_toEnvS fid_laws_toEnvS
theorem ok_laws_toEnvS : FnOk Tryd.prog OkT fid_laws_toEnvS run_laws_toEnvS := lim_ok (l := pl_laws_toEnvS) Tryd_mix tyTab_ok fiTab_ok okT (.cons ok_laws_toEnv .nil) fid_laws_toEnvS
noncomputable def laws_toEnvS_l0 (k m : Nat) : Nat → Cell → Cell → Int → List Entry → Option Res
  | 0, _, _, _, _ => none
  | n + 1, c3, c4, i5, H6 =>
    (lenC c3).bind fun n7 =>
    cond (decide (i5 < (n7 : Int)))
    ((idxA 2 (c3) i5).bind fun c8 =>
    (deref H6 (c8)).bind fun p9 =>
    (cS p9.1 p9.2).bind fun s10 =>
    (cS p9.1 (p9.2 + 1)).bind fun s11 =>
    (callF run_laws_toEnv [.agg [Cell.str s10, Cell.str s11]] H6).bind fun r12 =>
    cond (shapeOk rk_laws_toEnv r12.1)
    ((cS (cellsAt r12.1 0) 0).bind fun s13 =>
    (cS (cellsAt r12.1 0) 1).bind fun s14 =>
    (idxA 2 (c4) i5).bind fun c15 =>
    (hStore r12.2 (c15) [Cell.str s13, Cell.str s14]).bind fun h16 =>
    laws_toEnvS_l0 k m n (c3) (c4) (IntKind.i64.wrap (i5 + 1)) h16)
    none)
    (some ([.one (c4)], H6))
noncomputable def laws_toEnvS (k m : Nat) (c1 : Cell) : Option Res :=
  (lenC c1).bind fun n2 =>
  if 0 ≤ (n2 : Int) ∧ (n2 : Int) ≤ (n2 : Int) ∧ (n2 : Int) * 32 ≤ bound ∧ (n2 : Int) ≤ bound then
  (laws_toEnvS_l0 k m m (c1) ((.vs 0 2 0 (n2 : Int).toNat 0)) 0 [Entry.mk 2 (mkRows (n2 : Int).toNat [Cell.str (bs []), Cell.str (bs [])]) 0 false]) else none
noncomputable abbrev laws_toEnvS_l0_B (k m : Nat) : (Ex → Fr → Option Res) → Fr → Option Res := evC G_laws_toEnvS fi_laws_toEnvS (evF G_laws_toEnvS (k + 1)) m (sub [1, 1, 0, 1, 2, 3] fi_laws_toEnvS.code) none
noncomputable abbrev laws_toEnvS_l0_K (k m : Nat) : Ex → Fr → Option Res := blockK 0 (seqK (evC G_laws_toEnvS fi_laws_toEnvS (evF G_laws_toEnvS (k + 1)) m (sub [1, 1, 1] fi_laws_toEnvS.code) none) (retK G_laws_toEnvS fi_laws_toEnvS))
theorem laws_toEnvS_l0_eq (k m : Nat) : ∀ (n : Nat) (c3 : Cell) (c4 : Cell) (i5 : Int) (H6 : List Entry), loopK (some [0, 3, 4]) (laws_toEnvS_l0_B k m) (laws_toEnvS_l0_K k m) n ⟨fT 23 0 [(0, .av (.one (c3))), (3, .av (.one (c4))), (4, .av (.one (Cell.int i5)))], fX 23 0 [], H6⟩ = laws_toEnvS_l0 (k + 1) m n c3 c4 i5 H6 := by
  intro n
  induction n with
  | zero => intros; rfl
  | succ n ih =>
    intros
    simp only [laws_toEnvS_l0, ← ih]
    kernel_rfl
theorem laws_toEnvS_code (k m : Nat) (c1 : Cell) : evC G_laws_toEnvS fi_laws_toEnvS (evF G_laws_toEnvS (k + 1)) m fi_laws_toEnvS.code none (retK G_laws_toEnvS fi_laws_toEnvS) (enter fi_laws_toEnvS [.one (c1)] []) = laws_toEnvS (k + 1) m c1 := by
  simp only [laws_toEnvS, ← laws_toEnvS_l0_eq k m]
  kernel_rfl
theorem laws_toEnvS_eq (k : Nat) (c1 : Cell) : evF G_laws_toEnvS (k + 2) fid_laws_toEnvS [.one (c1)] [] = laws_toEnvS (k + 1) (k + 1) c1 :=
  Eq.trans (by kernel_rfl) (laws_toEnvS_code k (k + 1) c1)
theorem run_laws_toEnvS_of {c1 : Cell} {r : Res} (k : Nat) (h : laws_toEnvS (k + 1) (k + 1) c1 = some r) : run_laws_toEnvS [.one (c1)] [] = some r := lim_of ((laws_toEnvS_eq k c1).trans h)
noncomputable def pl_laws_toMade : List (Nat × Run) := [(fid_laws_toFileS, run_laws_toFileS)]
noncomputable def G_laws_toMade : Ctx := ctx tyTab fiTab pl_laws_toMade
noncomputable def run_laws_toMade : Run := lim G_laws_toMade fid_laws_toMade
theorem ok_laws_toMade : FnOk Tryd.prog OkT fid_laws_toMade run_laws_toMade := lim_ok (l := pl_laws_toMade) Tryd_mix tyTab_ok fiTab_ok okT (.cons ok_laws_toFileS .nil) fid_laws_toMade
noncomputable def laws_toMade (k m : Nat) (s1 : ByteArray) (c2 : Cell) (s3 : ByteArray) : Option Res :=
  (callF run_laws_toFileS [.one (c2)] []).bind fun r4 =>
  cond (shapeOk rk_laws_toFileS r4.1)
  ((cC (cellsAt r4.1 0) 0).bind fun c5 =>
  some ([.agg [Cell.str s1, c5, Cell.str s3]], r4.2))
  none
theorem laws_toMade_code (k m : Nat) (s1 : ByteArray) (c2 : Cell) (s3 : ByteArray) : evC G_laws_toMade fi_laws_toMade (evF G_laws_toMade (k + 1)) m fi_laws_toMade.code none (retK G_laws_toMade fi_laws_toMade) (enter fi_laws_toMade [.agg [Cell.str s1, c2, Cell.str s3]] []) = laws_toMade (k + 1) m s1 c2 s3 := by
  kernel_rfl
theorem laws_toMade_eq (k : Nat) (s1 : ByteArray) (c2 : Cell) (s3 : ByteArray) : evF G_laws_toMade (k + 2) fid_laws_toMade [.agg [Cell.str s1, c2, Cell.str s3]] [] = laws_toMade (k + 1) (k + 1) s1 c2 s3 :=
  Eq.trans (by kernel_rfl) (laws_toMade_code k (k + 1) s1 c2 s3)
theorem run_laws_toMade_of {s1 : ByteArray} {c2 : Cell} {s3 : ByteArray} {r : Res} (k : Nat) (h : laws_toMade (k + 1) (k + 1) s1 c2 s3 = some r) : run_laws_toMade [.agg [Cell.str s1, c2, Cell.str s3]] [] = some r := lim_of ((laws_toMade_eq k s1 c2 s3).trans h)
noncomputable def pl_laws_toMadeS : List (Nat × Run) := [(fid_laws_toMade, run_laws_toMade)]
noncomputable def G_laws_toMadeS : Ctx := ctx tyTab fiTab pl_laws_toMadeS
noncomputable def run_laws_toMadeS : Run := lim G_laws_toMadeS fid_laws_toMadeS
theorem ok_laws_toMadeS : FnOk Tryd.prog OkT fid_laws_toMadeS run_laws_toMadeS := lim_ok (l := pl_laws_toMadeS) Tryd_mix tyTab_ok fiTab_ok okT (.cons ok_laws_toMade .nil) fid_laws_toMadeS
noncomputable def laws_toMadeS_l0 (k m : Nat) : Nat → Cell → Cell → Int → List Entry → Option Res
  | 0, _, _, _, _ => none
  | n + 1, c3, c4, i5, H6 =>
    (lenC c3).bind fun n7 =>
    cond (decide (i5 < (n7 : Int)))
    ((idxA 3 (c3) i5).bind fun c8 =>
    (deref H6 (c8)).bind fun p9 =>
    (cS p9.1 p9.2).bind fun s10 =>
    (cC p9.1 (p9.2 + 1)).bind fun c11 =>
    (cS p9.1 ((p9.2 + 1) + 1)).bind fun s12 =>
    (callF run_laws_toMade [.agg [Cell.str s10, c11, Cell.str s12]] H6).bind fun r13 =>
    cond (shapeOk rk_laws_toMade r13.1)
    ((cS (cellsAt r13.1 0) 0).bind fun s14 =>
    (cC (cellsAt r13.1 0) 1).bind fun c15 =>
    (cS (cellsAt r13.1 0) 2).bind fun s16 =>
    (idxA 3 (c4) i5).bind fun c17 =>
    (hStore r13.2 (c17) [Cell.str s14, c15, Cell.str s16]).bind fun h18 =>
    laws_toMadeS_l0 k m n (c3) (c4) (IntKind.i64.wrap (i5 + 1)) h18)
    none)
    (some ([.one (c4)], H6))
noncomputable def laws_toMadeS (k m : Nat) (c1 : Cell) : Option Res :=
  (lenC c1).bind fun n2 =>
  if 0 ≤ (n2 : Int) ∧ (n2 : Int) ≤ (n2 : Int) ∧ (n2 : Int) * 56 ≤ bound ∧ (n2 : Int) ≤ bound then
  (laws_toMadeS_l0 k m m (c1) ((.vs 0 3 0 (n2 : Int).toNat 0)) 0 [Entry.mk 3 (mkRows (n2 : Int).toNat [Cell.str (bs []), .lst true 2 [], Cell.str (bs [])]) 0 false]) else none
noncomputable abbrev laws_toMadeS_l0_B (k m : Nat) : (Ex → Fr → Option Res) → Fr → Option Res := evC G_laws_toMadeS fi_laws_toMadeS (evF G_laws_toMadeS (k + 1)) m (sub [1, 1, 0, 1, 2, 3] fi_laws_toMadeS.code) none
noncomputable abbrev laws_toMadeS_l0_K (k m : Nat) : Ex → Fr → Option Res := blockK 0 (seqK (evC G_laws_toMadeS fi_laws_toMadeS (evF G_laws_toMadeS (k + 1)) m (sub [1, 1, 1] fi_laws_toMadeS.code) none) (retK G_laws_toMadeS fi_laws_toMadeS))
theorem laws_toMadeS_l0_eq (k m : Nat) : ∀ (n : Nat) (c3 : Cell) (c4 : Cell) (i5 : Int) (H6 : List Entry), loopK (some [0, 3, 4]) (laws_toMadeS_l0_B k m) (laws_toMadeS_l0_K k m) n ⟨fT 23 0 [(0, .av (.one (c3))), (3, .av (.one (c4))), (4, .av (.one (Cell.int i5)))], fX 23 0 [], H6⟩ = laws_toMadeS_l0 (k + 1) m n c3 c4 i5 H6 := by
  intro n
  induction n with
  | zero => intros; rfl
  | succ n ih =>
    intros
    simp only [laws_toMadeS_l0, ← ih]
    kernel_rfl
theorem laws_toMadeS_code (k m : Nat) (c1 : Cell) : evC G_laws_toMadeS fi_laws_toMadeS (evF G_laws_toMadeS (k + 1)) m fi_laws_toMadeS.code none (retK G_laws_toMadeS fi_laws_toMadeS) (enter fi_laws_toMadeS [.one (c1)] []) = laws_toMadeS (k + 1) m c1 := by
  simp only [laws_toMadeS, ← laws_toMadeS_l0_eq k m]
  kernel_rfl
theorem laws_toMadeS_eq (k : Nat) (c1 : Cell) : evF G_laws_toMadeS (k + 2) fid_laws_toMadeS [.one (c1)] [] = laws_toMadeS (k + 1) (k + 1) c1 :=
  Eq.trans (by kernel_rfl) (laws_toMadeS_code k (k + 1) c1)
theorem run_laws_toMadeS_of {c1 : Cell} {r : Res} (k : Nat) (h : laws_toMadeS (k + 1) (k + 1) c1 = some r) : run_laws_toMadeS [.one (c1)] [] = some r := lim_of ((laws_toMadeS_eq k c1).trans h)
noncomputable def pl_laws_toJob : List (Nat × Run) := [(fid_laws_toFileS, run_laws_toFileS), (fid_laws_toStringS, run_laws_toStringS), (fid_laws_toEnvS, run_laws_toEnvS), (fid_laws_toMadeS, run_laws_toMadeS)]
noncomputable def G_laws_toJob : Ctx := ctx tyTab fiTab pl_laws_toJob
noncomputable def run_laws_toJob : Run := lim G_laws_toJob fid_laws_toJob
theorem ok_laws_toJob : FnOk Tryd.prog OkT fid_laws_toJob run_laws_toJob := lim_ok (l := pl_laws_toJob) Tryd_mix tyTab_ok fiTab_ok okT (.cons ok_laws_toFileS (.cons ok_laws_toStringS (.cons ok_laws_toEnvS (.cons ok_laws_toMadeS .nil)))) fid_laws_toJob
noncomputable def laws_toJob (k m : Nat) (s1 : ByteArray) (c2 : Cell) (c3 : Cell) (c4 : Cell) (c5 : Cell) : Option Res :=
  (callF run_laws_toStringS [.one (c2)] []).bind fun r6 =>
  cond (shapeOk rk_laws_toStringS r6.1)
  ((cC (cellsAt r6.1 0) 0).bind fun c7 =>
  (callF run_laws_toFileS [.one (c3)] r6.2).bind fun r8 =>
  cond (shapeOk rk_laws_toFileS r8.1)
  ((cC (cellsAt r8.1 0) 0).bind fun c9 =>
  (callF run_laws_toEnvS [.one (c4)] r8.2).bind fun r10 =>
  cond (shapeOk rk_laws_toEnvS r10.1)
  ((cC (cellsAt r10.1 0) 0).bind fun c11 =>
  (callF run_laws_toMadeS [.one (c5)] r10.2).bind fun r12 =>
  cond (shapeOk rk_laws_toMadeS r12.1)
  ((cC (cellsAt r12.1 0) 0).bind fun c13 =>
  some ([.agg [Cell.str s1, c7, c9, c11, c13]], r12.2))
  none)
  none)
  none)
  none
theorem laws_toJob_code (k m : Nat) (s1 : ByteArray) (c2 : Cell) (c3 : Cell) (c4 : Cell) (c5 : Cell) : evC G_laws_toJob fi_laws_toJob (evF G_laws_toJob (k + 1)) m fi_laws_toJob.code none (retK G_laws_toJob fi_laws_toJob) (enter fi_laws_toJob [.agg [Cell.str s1, c2, c3, c4, c5]] []) = laws_toJob (k + 1) m s1 c2 c3 c4 c5 := by
  kernel_rfl
theorem laws_toJob_eq (k : Nat) (s1 : ByteArray) (c2 : Cell) (c3 : Cell) (c4 : Cell) (c5 : Cell) : evF G_laws_toJob (k + 2) fid_laws_toJob [.agg [Cell.str s1, c2, c3, c4, c5]] [] = laws_toJob (k + 1) (k + 1) s1 c2 c3 c4 c5 :=
  Eq.trans (by kernel_rfl) (laws_toJob_code k (k + 1) s1 c2 c3 c4 c5)
theorem run_laws_toJob_of {s1 : ByteArray} {c2 : Cell} {c3 : Cell} {c4 : Cell} {c5 : Cell} {r : Res} (k : Nat) (h : laws_toJob (k + 1) (k + 1) s1 c2 c3 c4 c5 = some r) : run_laws_toJob [.agg [Cell.str s1, c2, c3, c4, c5]] [] = some r := lim_of ((laws_toJob_eq k s1 c2 c3 c4 c5).trans h)
noncomputable def pl_impl_putText : List (Nat × Run) := []
noncomputable def G_impl_putText : Ctx := ctx tyTab fiTab pl_impl_putText
noncomputable def run_impl_putText : Run := lim G_impl_putText fid_impl_putText
theorem ok_impl_putText : FnOk Tryd.prog OkT fid_impl_putText run_impl_putText := lim_ok (l := pl_impl_putText) Tryd_mix tyTab_ok fiTab_ok okT .nil fid_impl_putText
noncomputable def impl_putText (k m : Nat) (c1 : Cell) (s2 : ByteArray) (H : List Entry) : Option Res :=
  cond (decide ((s2.size : Int) > 60000))
  (some ([.one (c1)], H))
  ((app H 1 1 (c1) [[.sc (.int .u8 (IntKind.u8.wrap (shrI .i64 (s2.size : Int) 8)))], [.sc (.int .u8 (IntKind.u8.wrap (s2.size : Int)))]]).bind fun p3 =>
  (app p3.2 1 1 (p3.1) (byteRows s2)).bind fun p4 =>
  some ([.one (p4.1)], p4.2))
theorem impl_putText_code (k m : Nat) (c1 : Cell) (s2 : ByteArray) (H : List Entry) : evC G_impl_putText fi_impl_putText (evF G_impl_putText (k + 1)) m fi_impl_putText.code none (retK G_impl_putText fi_impl_putText) (enter fi_impl_putText [.one (c1), .one (Cell.str s2)] H) = impl_putText (k + 1) m c1 s2 H := by
  kernel_rfl
theorem impl_putText_eq (k : Nat) (c1 : Cell) (s2 : ByteArray) (H : List Entry) : evF G_impl_putText (k + 2) fid_impl_putText [.one (c1), .one (Cell.str s2)] H = impl_putText (k + 1) (k + 1) c1 s2 H :=
  Eq.trans (by kernel_rfl) (impl_putText_code k (k + 1) c1 s2 H)
theorem run_impl_putText_of {c1 : Cell} {s2 : ByteArray} {H : List Entry} {r : Res} (k : Nat) (h : impl_putText (k + 1) (k + 1) c1 s2 H = some r) : run_impl_putText [.one (c1), .one (Cell.str s2)] H = some r := lim_of ((impl_putText_eq k c1 s2 H).trans h)
noncomputable def pl_impl_NumText : List (Nat × Run) := [(fid_strconv_Itoa, run_strconv_Itoa)]
noncomputable def G_impl_NumText : Ctx := ctx tyTab fiTab pl_impl_NumText
noncomputable def run_impl_NumText : Run := lim G_impl_NumText fid_impl_NumText
theorem ok_impl_NumText : FnOk Tryd.prog OkT fid_impl_NumText run_impl_NumText := lim_ok (l := pl_impl_NumText) Tryd_mix tyTab_ok fiTab_ok okT (.cons ok_strconv_Itoa .nil) fid_impl_NumText
noncomputable def impl_NumText (k m : Nat) (i1 : Int) : Option Res :=
  (callS run_strconv_Itoa [.one (Cell.int (if i1 < 0 then 0 else i1))] []).bind fun r2 =>
  cond (shapeOk rk_strconv_Itoa r2)
  ((cS (cellsAt r2 0) 0).bind fun s3 =>
  some ([.one (Cell.str s3)], []))
  none
theorem impl_NumText_code (k m : Nat) (i1 : Int) : evC G_impl_NumText fi_impl_NumText (evF G_impl_NumText (k + 1)) m fi_impl_NumText.code none (retK G_impl_NumText fi_impl_NumText) (enter fi_impl_NumText [.one (Cell.int i1)] []) = impl_NumText (k + 1) m i1 := by
  kernel_rfl
theorem impl_NumText_eq (k : Nat) (i1 : Int) : evF G_impl_NumText (k + 2) fid_impl_NumText [.one (Cell.int i1)] [] = impl_NumText (k + 1) (k + 1) i1 :=
  Eq.trans (by kernel_rfl) (impl_NumText_code k (k + 1) i1)
theorem run_impl_NumText_of {i1 : Int} {r : Res} (k : Nat) (h : impl_NumText (k + 1) (k + 1) i1 = some r) : run_impl_NumText [.one (Cell.int i1)] [] = some r := lim_of ((impl_NumText_eq k i1).trans h)
noncomputable def pl_impl_putFiles : List (Nat × Run) := [(fid_impl_putText, run_impl_putText), (fid_impl_NumText, run_impl_NumText)]
noncomputable def G_impl_putFiles : Ctx := ctx tyTab fiTab pl_impl_putFiles
noncomputable def run_impl_putFiles : Run := lim G_impl_putFiles fid_impl_putFiles
theorem ok_impl_putFiles : FnOk Tryd.prog OkT fid_impl_putFiles run_impl_putFiles := lim_ok (l := pl_impl_putFiles) Tryd_mix tyTab_ok fiTab_ok okT (.cons ok_impl_putText (.cons ok_impl_NumText .nil)) fid_impl_putFiles
noncomputable def impl_putFiles_l0 (k m : Nat) : Nat → Cell → Cell → Int → Int → List Entry → Option Res
  | 0, _, _, _, _, _ => none
  | n + 1, c9, c10, i11, i12, H13 =>
    cond (decide (i12 < i11))
    ((idxA 2 (c10) i12).bind fun c14 =>
    (deref H13 (c14)).bind fun p15 =>
    (cS p15.1 p15.2).bind fun s16 =>
    (cS p15.1 (p15.2 + 1)).bind fun s17 =>
    (run_impl_putText [.one (c9), .one (Cell.str s16)] H13).bind fun r18 =>
    cond (shapeOk rk_impl_putText r18.1)
    ((cC (cellsAt r18.1 0) 0).bind fun c19 =>
    (run_impl_putText [.one (c19), .one (Cell.str s17)] r18.2).bind fun r20 =>
    cond (shapeOk rk_impl_putText r20.1)
    ((cC (cellsAt r20.1 0) 0).bind fun c21 =>
    impl_putFiles_l0 k m n (c21) (c10) i11 (IntKind.i64.wrap (i12 + 1)) r20.2)
    none)
    none)
    (some ([.one (c9)], H13))
noncomputable def impl_putFiles (k m : Nat) (c1 : Cell) (c2 : Cell) (H : List Entry) : Option Res :=
  (lenC c2).bind fun n3 =>
  (callS run_impl_NumText [.one (Cell.int (n3 : Int))] H).bind fun r4 =>
  cond (shapeOk rk_impl_NumText r4)
  ((cS (cellsAt r4 0) 0).bind fun s5 =>
  (run_impl_putText [.one (c1), .one (Cell.str s5)] H).bind fun r6 =>
  cond (shapeOk rk_impl_putText r6.1)
  ((cC (cellsAt r6.1 0) 0).bind fun c7 =>
  (lenC c2).bind fun n8 =>
  impl_putFiles_l0 k m m (c7) (c2) (n8 : Int) 0 r6.2)
  none)
  none
noncomputable abbrev impl_putFiles_l0_B (k m : Nat) : (Ex → Fr → Option Res) → Fr → Option Res := evC G_impl_putFiles fi_impl_putFiles (evF G_impl_putFiles (k + 1)) m (sub [1, 1, 0, 1, 2, 3] fi_impl_putFiles.code) none
noncomputable abbrev impl_putFiles_l0_K (k m : Nat) : Ex → Fr → Option Res := blockK 0 (seqK (evC G_impl_putFiles fi_impl_putFiles (evF G_impl_putFiles (k + 1)) m (sub [1, 1, 1] fi_impl_putFiles.code) none) (retK G_impl_putFiles fi_impl_putFiles))
theorem impl_putFiles_l0_eq (k m : Nat) : ∀ (n : Nat) (c9 : Cell) (c10 : Cell) (i11 : Int) (i12 : Int) (H13 : List Entry), loopK (some [0, 12, 13, 14]) (impl_putFiles_l0_B k m) (impl_putFiles_l0_K k m) n ⟨fT 27 0 [(0, .av (.one (c9))), (12, .av (.one (c10))), (13, .av (.one (Cell.int i11))), (14, .av (.one (Cell.int i12)))], fX 27 0 [], H13⟩ = impl_putFiles_l0 (k + 1) m n c9 c10 i11 i12 H13 := by
  intro n
  induction n with
  | zero => intros; rfl
  | succ n ih =>
    intros
    simp only [impl_putFiles_l0, ← ih]
    kernel_rfl
theorem impl_putFiles_code (k m : Nat) (c1 : Cell) (c2 : Cell) (H : List Entry) : evC G_impl_putFiles fi_impl_putFiles (evF G_impl_putFiles (k + 1)) m fi_impl_putFiles.code none (retK G_impl_putFiles fi_impl_putFiles) (enter fi_impl_putFiles [.one (c1), .one (c2)] H) = impl_putFiles (k + 1) m c1 c2 H := by
  simp only [impl_putFiles, ← impl_putFiles_l0_eq k m]
  kernel_rfl
theorem impl_putFiles_eq (k : Nat) (c1 : Cell) (c2 : Cell) (H : List Entry) : evF G_impl_putFiles (k + 2) fid_impl_putFiles [.one (c1), .one (c2)] H = impl_putFiles (k + 1) (k + 1) c1 c2 H :=
  Eq.trans (by kernel_rfl) (impl_putFiles_code k (k + 1) c1 c2 H)
theorem run_impl_putFiles_of {c1 : Cell} {c2 : Cell} {H : List Entry} {r : Res} (k : Nat) (h : impl_putFiles (k + 1) (k + 1) c1 c2 H = some r) : run_impl_putFiles [.one (c1), .one (c2)] H = some r := lim_of ((impl_putFiles_eq k c1 c2 H).trans h)
noncomputable def pl_impl_KeyOf : List (Nat × Run) := [(fid_impl_putFiles, run_impl_putFiles), (fid_impl_putText, run_impl_putText), (fid_impl_NumText, run_impl_NumText)]
noncomputable def G_impl_KeyOf : Ctx := ctx tyTab fiTab pl_impl_KeyOf
noncomputable def run_impl_KeyOf : Run := lim G_impl_KeyOf fid_impl_KeyOf
theorem ok_impl_KeyOf : FnOk Tryd.prog OkT fid_impl_KeyOf run_impl_KeyOf := lim_ok (l := pl_impl_KeyOf) Tryd_mix tyTab_ok fiTab_ok okT (.cons ok_impl_putFiles (.cons ok_impl_putText (.cons ok_impl_NumText .nil))) fid_impl_KeyOf
noncomputable def impl_KeyOf_l2 (k m : Nat) : Nat → Cell → Cell → Int → Int → List Entry → Option Res
  | 0, _, _, _, _, _ => none
  | n + 1, c61, c62, i63, i64, H65 =>
    cond (decide (i64 < i63))
    ((idxA 3 (c62) i64).bind fun c66 =>
    (deref H65 (c66)).bind fun p67 =>
    (cS p67.1 p67.2).bind fun s68 =>
    (cC p67.1 (p67.2 + 1)).bind fun c69 =>
    (cS p67.1 ((p67.2 + 1) + 1)).bind fun s70 =>
    (run_impl_putText [.one (c61), .one (Cell.str s68)] H65).bind fun r71 =>
    cond (shapeOk rk_impl_putText r71.1)
    ((cC (cellsAt r71.1 0) 0).bind fun c72 =>
    (run_impl_putText [.one (c72), .one (Cell.str s70)] r71.2).bind fun r73 =>
    cond (shapeOk rk_impl_putText r73.1)
    ((cC (cellsAt r73.1 0) 0).bind fun c74 =>
    (run_impl_putFiles [.one (c74), .one (c69)] r73.2).bind fun r75 =>
    cond (shapeOk rk_impl_putFiles r75.1)
    ((cC (cellsAt r75.1 0) 0).bind fun c76 =>
    impl_KeyOf_l2 k m n (c76) (c62) i63 (IntKind.i64.wrap (i64 + 1)) r75.2)
    none)
    none)
    none)
    (some ([.one (c61)], H65))
noncomputable def impl_KeyOf_l1 (k m : Nat) : Nat → Cell → Cell → Int → Int → ByteArray → Cell → Cell → Cell → Cell → List Entry → Option Res
  | 0, _, _, _, _, _, _, _, _, _, _ => none
  | n + 1, c37, c38, i39, i40, s41, c42, c43, c44, c45, H46 =>
    cond (decide (i40 < i39))
    ((idxA 2 (c38) i40).bind fun c47 =>
    (deref H46 (c47)).bind fun p48 =>
    (cS p48.1 p48.2).bind fun s49 =>
    (cS p48.1 (p48.2 + 1)).bind fun s50 =>
    (run_impl_putText [.one (c37), .one (Cell.str s49)] H46).bind fun r51 =>
    cond (shapeOk rk_impl_putText r51.1)
    ((cC (cellsAt r51.1 0) 0).bind fun c52 =>
    (run_impl_putText [.one (c52), .one (Cell.str s50)] r51.2).bind fun r53 =>
    cond (shapeOk rk_impl_putText r53.1)
    ((cC (cellsAt r53.1 0) 0).bind fun c54 =>
    impl_KeyOf_l1 k m n (c54) (c38) i39 (IntKind.i64.wrap (i40 + 1)) s41 (c42) (c43) (c44) (c45) r53.2)
    none)
    none)
    ((lenC c45).bind fun n55 =>
    (callS run_impl_NumText [.one (Cell.int (n55 : Int))] H46).bind fun r56 =>
    cond (shapeOk rk_impl_NumText r56)
    ((cS (cellsAt r56 0) 0).bind fun s57 =>
    (run_impl_putText [.one (c37), .one (Cell.str s57)] H46).bind fun r58 =>
    cond (shapeOk rk_impl_putText r58.1)
    ((cC (cellsAt r58.1 0) 0).bind fun c59 =>
    (lenC c45).bind fun n60 =>
    impl_KeyOf_l2 k m m (c59) (c45) (n60 : Int) 0 r58.2)
    none)
    none)
noncomputable def impl_KeyOf_l0 (k m : Nat) : Nat → Cell → Cell → Int → Int → ByteArray → Cell → Cell → Cell → Cell → List Entry → Option Res
  | 0, _, _, _, _, _, _, _, _, _, _ => none
  | n + 1, c14, c15, i16, i17, s18, c19, c20, c21, c22, H23 =>
    cond (decide (i17 < i16))
    ((idxA 1 (c15) i17).bind fun c24 =>
    (deref H23 (c24)).bind fun p25 =>
    (cS p25.1 p25.2).bind fun s26 =>
    (run_impl_putText [.one (c14), .one (Cell.str s26)] H23).bind fun r27 =>
    cond (shapeOk rk_impl_putText r27.1)
    ((cC (cellsAt r27.1 0) 0).bind fun c28 =>
    impl_KeyOf_l0 k m n (c28) (c15) i16 (IntKind.i64.wrap (i17 + 1)) s18 (c19) (c20) (c21) (c22) r27.2)
    none)
    ((run_impl_putFiles [.one (c14), .one (c20)] H23).bind fun r29 =>
    cond (shapeOk rk_impl_putFiles r29.1)
    ((cC (cellsAt r29.1 0) 0).bind fun c30 =>
    (lenC c21).bind fun n31 =>
    (callS run_impl_NumText [.one (Cell.int (n31 : Int))] r29.2).bind fun r32 =>
    cond (shapeOk rk_impl_NumText r32)
    ((cS (cellsAt r32 0) 0).bind fun s33 =>
    (run_impl_putText [.one (c30), .one (Cell.str s33)] r29.2).bind fun r34 =>
    cond (shapeOk rk_impl_putText r34.1)
    ((cC (cellsAt r34.1 0) 0).bind fun c35 =>
    (lenC c21).bind fun n36 =>
    impl_KeyOf_l1 k m m (c35) (c21) (n36 : Int) 0 s18 (c19) (c20) (c21) (c22) r34.2)
    none)
    none)
    none)
noncomputable def impl_KeyOf (k m : Nat) (s1 : ByteArray) (c2 : Cell) (c3 : Cell) (c4 : Cell) (c5 : Cell) : Option Res :=
  (run_impl_putText [.one (.lst true 1 []), .one (Cell.str s1)] []).bind fun r6 =>
  cond (shapeOk rk_impl_putText r6.1)
  ((cC (cellsAt r6.1 0) 0).bind fun c7 =>
  (lenC c2).bind fun n8 =>
  (callS run_impl_NumText [.one (Cell.int (n8 : Int))] r6.2).bind fun r9 =>
  cond (shapeOk rk_impl_NumText r9)
  ((cS (cellsAt r9 0) 0).bind fun s10 =>
  (run_impl_putText [.one (c7), .one (Cell.str s10)] r6.2).bind fun r11 =>
  cond (shapeOk rk_impl_putText r11.1)
  ((cC (cellsAt r11.1 0) 0).bind fun c12 =>
  (lenC c2).bind fun n13 =>
  impl_KeyOf_l0 k m m (c12) (c2) (n13 : Int) 0 s1 (c2) (c3) (c4) (c5) r11.2)
  none)
  none)
  none
noncomputable abbrev impl_KeyOf_l0_B (k m : Nat) : (Ex → Fr → Option Res) → Fr → Option Res := evC G_impl_KeyOf fi_impl_KeyOf (evF G_impl_KeyOf (k + 1)) m (sub [1, 1, 0, 1, 2, 3] fi_impl_KeyOf.code) none
noncomputable abbrev impl_KeyOf_l0_K (k m : Nat) : Ex → Fr → Option Res := blockK 0 (seqK (evC G_impl_KeyOf fi_impl_KeyOf (evF G_impl_KeyOf (k + 1)) m (sub [1, 1, 1] fi_impl_KeyOf.code) none) (retK G_impl_KeyOf fi_impl_KeyOf))
noncomputable abbrev impl_KeyOf_l1_B (k m : Nat) : (Ex → Fr → Option Res) → Fr → Option Res := evC G_impl_KeyOf fi_impl_KeyOf (evF G_impl_KeyOf (k + 1)) m (sub [1, 1, 1, 1, 1, 0, 1, 2, 3] fi_impl_KeyOf.code) none
noncomputable abbrev impl_KeyOf_l1_K (k m : Nat) : Ex → Fr → Option Res := blockK 2 (seqK (evC G_impl_KeyOf fi_impl_KeyOf (evF G_impl_KeyOf (k + 1)) m (sub [1, 1, 1, 1, 1, 1] fi_impl_KeyOf.code) none) (retK G_impl_KeyOf fi_impl_KeyOf))
noncomputable abbrev impl_KeyOf_l2_B (k m : Nat) : (Ex → Fr → Option Res) → Fr → Option Res := evC G_impl_KeyOf fi_impl_KeyOf (evF G_impl_KeyOf (k + 1)) m (sub [1, 1, 1, 1, 1, 1, 1, 0, 1, 2, 3] fi_impl_KeyOf.code) none
noncomputable abbrev impl_KeyOf_l2_K (k m : Nat) : Ex → Fr → Option Res := blockK 4 (seqK (evC G_impl_KeyOf fi_impl_KeyOf (evF G_impl_KeyOf (k + 1)) m (sub [1, 1, 1, 1, 1, 1, 1, 1] fi_impl_KeyOf.code) none) (retK G_impl_KeyOf fi_impl_KeyOf))
theorem impl_KeyOf_l2_eq (k m : Nat) : ∀ (n : Nat) (c61 : Cell) (c62 : Cell) (i63 : Int) (i64 : Int) (H65 : List Entry), loopK (some [3, 61, 62, 63]) (impl_KeyOf_l2_B k m) (impl_KeyOf_l2_K k m) n ⟨fT 79 0 [(3, .av (.one (c61))), (61, .av (.one (c62))), (62, .av (.one (Cell.int i63))), (63, .av (.one (Cell.int i64)))], fX 79 0 [], H65⟩ = impl_KeyOf_l2 (k + 1) m n c61 c62 i63 i64 H65 := by
  intro n
  induction n with
  | zero => intros; rfl
  | succ n ih =>
    intros
    simp only [impl_KeyOf_l2, ← ih]
    kernel_rfl
theorem impl_KeyOf_l1_eq (k m : Nat) : ∀ (n : Nat) (c37 : Cell) (c38 : Cell) (i39 : Int) (i40 : Int) (s41 : ByteArray) (c42 : Cell) (c43 : Cell) (c44 : Cell) (c45 : Cell) (H46 : List Entry), loopK (some [1, 3, 40, 41, 42]) (impl_KeyOf_l1_B k m) (impl_KeyOf_l1_K k m) n ⟨fT 79 0 [(1, .loc 1 0), (3, .av (.one (c37))), (40, .av (.one (c38))), (41, .av (.one (Cell.int i39))), (42, .av (.one (Cell.int i40)))], fX 79 0 [(1, [Cell.str s41, c42, c43, c44, c45])], H46⟩ = impl_KeyOf_l1 (k + 1) m n c37 c38 i39 i40 s41 c42 c43 c44 c45 H46 := by
  intro n
  induction n with
  | zero => intros; rfl
  | succ n ih =>
    intros
    simp only [impl_KeyOf_l1, ← impl_KeyOf_l2_eq k m, ← ih]
    kernel_rfl
theorem impl_KeyOf_l0_eq (k m : Nat) : ∀ (n : Nat) (c14 : Cell) (c15 : Cell) (i16 : Int) (i17 : Int) (s18 : ByteArray) (c19 : Cell) (c20 : Cell) (c21 : Cell) (c22 : Cell) (H23 : List Entry), loopK (some [1, 3, 19, 20, 21]) (impl_KeyOf_l0_B k m) (impl_KeyOf_l0_K k m) n ⟨fT 79 0 [(1, .loc 1 0), (3, .av (.one (c14))), (19, .av (.one (c15))), (20, .av (.one (Cell.int i16))), (21, .av (.one (Cell.int i17)))], fX 79 0 [(1, [Cell.str s18, c19, c20, c21, c22])], H23⟩ = impl_KeyOf_l0 (k + 1) m n c14 c15 i16 i17 s18 c19 c20 c21 c22 H23 := by
  intro n
  induction n with
  | zero => intros; rfl
  | succ n ih =>
    intros
    simp only [impl_KeyOf_l0, ← impl_KeyOf_l1_eq k m, ← ih]
    kernel_rfl
theorem impl_KeyOf_code (k m : Nat) (s1 : ByteArray) (c2 : Cell) (c3 : Cell) (c4 : Cell) (c5 : Cell) : evC G_impl_KeyOf fi_impl_KeyOf (evF G_impl_KeyOf (k + 1)) m fi_impl_KeyOf.code none (retK G_impl_KeyOf fi_impl_KeyOf) (enter fi_impl_KeyOf [.agg [Cell.str s1, c2, c3, c4, c5]] []) = impl_KeyOf (k + 1) m s1 c2 c3 c4 c5 := by
  simp only [impl_KeyOf, ← impl_KeyOf_l0_eq k m]
  kernel_rfl
theorem impl_KeyOf_eq (k : Nat) (s1 : ByteArray) (c2 : Cell) (c3 : Cell) (c4 : Cell) (c5 : Cell) : evF G_impl_KeyOf (k + 2) fid_impl_KeyOf [.agg [Cell.str s1, c2, c3, c4, c5]] [] = impl_KeyOf (k + 1) (k + 1) s1 c2 c3 c4 c5 :=
  Eq.trans (by kernel_rfl) (impl_KeyOf_code k (k + 1) s1 c2 c3 c4 c5)
theorem run_impl_KeyOf_of {s1 : ByteArray} {c2 : Cell} {c3 : Cell} {c4 : Cell} {c5 : Cell} {r : Res} (k : Nat) (h : impl_KeyOf (k + 1) (k + 1) s1 c2 c3 c4 c5 = some r) : run_impl_KeyOf [.agg [Cell.str s1, c2, c3, c4, c5]] [] = some r := lim_of ((impl_KeyOf_eq k s1 c2 c3 c4 c5).trans h)
noncomputable def pl_laws_eqFile : List (Nat × Run) := []
noncomputable def G_laws_eqFile : Ctx := ctx tyTab fiTab pl_laws_eqFile
noncomputable def run_laws_eqFile : Run := lim G_laws_eqFile fid_laws_eqFile
theorem ok_laws_eqFile : FnOk Tryd.prog OkT fid_laws_eqFile run_laws_eqFile := lim_ok (l := pl_laws_eqFile) Tryd_mix tyTab_ok fiTab_ok okT .nil fid_laws_eqFile
noncomputable def laws_eqFile (k m : Nat) (s1 : ByteArray) (s2 : ByteArray) (s3 : ByteArray) (s4 : ByteArray) : Option Res :=
  cond (!(s1.toList == s3.toList))
  (some ([.one (Cell.bool false)], []))
  (cond (!(s2.toList == s4.toList))
  (some ([.one (Cell.bool false)], []))
  (some ([.one (Cell.bool true)], [])))
theorem laws_eqFile_code (k m : Nat) (s1 : ByteArray) (s2 : ByteArray) (s3 : ByteArray) (s4 : ByteArray) : evC G_laws_eqFile fi_laws_eqFile (evF G_laws_eqFile (k + 1)) m fi_laws_eqFile.code none (retK G_laws_eqFile fi_laws_eqFile) (enter fi_laws_eqFile [.agg [Cell.str s1, Cell.str s2], .agg [Cell.str s3, Cell.str s4]] []) = laws_eqFile (k + 1) m s1 s2 s3 s4 := by
  kernel_rfl
theorem laws_eqFile_eq (k : Nat) (s1 : ByteArray) (s2 : ByteArray) (s3 : ByteArray) (s4 : ByteArray) : evF G_laws_eqFile (k + 2) fid_laws_eqFile [.agg [Cell.str s1, Cell.str s2], .agg [Cell.str s3, Cell.str s4]] [] = laws_eqFile (k + 1) (k + 1) s1 s2 s3 s4 :=
  Eq.trans (by kernel_rfl) (laws_eqFile_code k (k + 1) s1 s2 s3 s4)
theorem run_laws_eqFile_of {s1 : ByteArray} {s2 : ByteArray} {s3 : ByteArray} {s4 : ByteArray} {r : Res} (k : Nat) (h : laws_eqFile (k + 1) (k + 1) s1 s2 s3 s4 = some r) : run_laws_eqFile [.agg [Cell.str s1, Cell.str s2], .agg [Cell.str s3, Cell.str s4]] [] = some r := lim_of ((laws_eqFile_eq k s1 s2 s3 s4).trans h)
noncomputable def pl_laws_eqFileS : List (Nat × Run) := [(fid_laws_eqFile, run_laws_eqFile)]
noncomputable def G_laws_eqFileS : Ctx := ctx tyTab fiTab pl_laws_eqFileS
noncomputable def run_laws_eqFileS : Run := lim G_laws_eqFileS fid_laws_eqFileS
theorem ok_laws_eqFileS : FnOk Tryd.prog OkT fid_laws_eqFileS run_laws_eqFileS := lim_ok (l := pl_laws_eqFileS) Tryd_mix tyTab_ok fiTab_ok okT (.cons ok_laws_eqFile .nil) fid_laws_eqFileS
noncomputable def laws_eqFileS_l0 (k m : Nat) : Nat → Cell → Cell → Int → Option Res
  | 0, _, _, _ => none
  | n + 1, c5, c6, i7 =>
    (lenC c5).bind fun n8 =>
    cond (decide (i7 < (n8 : Int)))
    ((idxA 2 (c5) i7).bind fun c9 =>
    (deref [] (c9)).bind fun p10 =>
    (cS p10.1 p10.2).bind fun s11 =>
    (cS p10.1 (p10.2 + 1)).bind fun s12 =>
    (idxA 2 (c6) i7).bind fun c13 =>
    (deref [] (c13)).bind fun p14 =>
    (cS p14.1 p14.2).bind fun s15 =>
    (cS p14.1 (p14.2 + 1)).bind fun s16 =>
    (callS run_laws_eqFile [.agg [Cell.str s11, Cell.str s12], .agg [Cell.str s15, Cell.str s16]] []).bind fun r17 =>
    cond (shapeOk rk_laws_eqFile r17)
    ((cB (cellsAt r17 0) 0).bind fun b18 =>
    cond (!b18)
    (some ([.one (Cell.bool false)], []))
    (laws_eqFileS_l0 k m n (c5) (c6) (IntKind.i64.wrap (i7 + 1))))
    none)
    (some ([.one (Cell.bool true)], []))
noncomputable def laws_eqFileS (k m : Nat) (c1 : Cell) (c2 : Cell) : Option Res :=
  (lenC c1).bind fun n3 =>
  (lenC c2).bind fun n4 =>
  cond ((n3 : Int) != (n4 : Int))
  (some ([.one (Cell.bool false)], []))
  (laws_eqFileS_l0 k m m (c1) (c2) 0)
noncomputable abbrev laws_eqFileS_l0_B (k m : Nat) : (Ex → Fr → Option Res) → Fr → Option Res := evC G_laws_eqFileS fi_laws_eqFileS (evF G_laws_eqFileS (k + 1)) m (sub [1, 1, 0, 1, 2, 3] fi_laws_eqFileS.code) none
noncomputable abbrev laws_eqFileS_l0_K (k m : Nat) : Ex → Fr → Option Res := blockK 0 (seqK (evC G_laws_eqFileS fi_laws_eqFileS (evF G_laws_eqFileS (k + 1)) m (sub [1, 1, 1] fi_laws_eqFileS.code) none) (retK G_laws_eqFileS fi_laws_eqFileS))
theorem laws_eqFileS_l0_eq (k m : Nat) : ∀ (n : Nat) (c5 : Cell) (c6 : Cell) (i7 : Int), loopK (some [0, 1, 5]) (laws_eqFileS_l0_B k m) (laws_eqFileS_l0_K k m) n ⟨fT 27 0 [(0, .av (.one (c5))), (1, .av (.one (c6))), (5, .av (.one (Cell.int i7)))], fX 27 0 [], []⟩ = laws_eqFileS_l0 (k + 1) m n c5 c6 i7 := by
  intro n
  induction n with
  | zero => intros; rfl
  | succ n ih =>
    intros
    simp only [laws_eqFileS_l0, ← ih]
    kernel_rfl
theorem laws_eqFileS_code (k m : Nat) (c1 : Cell) (c2 : Cell) : evC G_laws_eqFileS fi_laws_eqFileS (evF G_laws_eqFileS (k + 1)) m fi_laws_eqFileS.code none (retK G_laws_eqFileS fi_laws_eqFileS) (enter fi_laws_eqFileS [.one (c1), .one (c2)] []) = laws_eqFileS (k + 1) m c1 c2 := by
  simp only [laws_eqFileS, ← laws_eqFileS_l0_eq k m]
  kernel_rfl
theorem laws_eqFileS_eq (k : Nat) (c1 : Cell) (c2 : Cell) : evF G_laws_eqFileS (k + 2) fid_laws_eqFileS [.one (c1), .one (c2)] [] = laws_eqFileS (k + 1) (k + 1) c1 c2 :=
  Eq.trans (by kernel_rfl) (laws_eqFileS_code k (k + 1) c1 c2)
theorem run_laws_eqFileS_of {c1 : Cell} {c2 : Cell} {r : Res} (k : Nat) (h : laws_eqFileS (k + 1) (k + 1) c1 c2 = some r) : run_laws_eqFileS [.one (c1), .one (c2)] [] = some r := lim_of ((laws_eqFileS_eq k c1 c2).trans h)
noncomputable def pl_laws_eqStringS : List (Nat × Run) := []
noncomputable def G_laws_eqStringS : Ctx := ctx tyTab fiTab pl_laws_eqStringS
noncomputable def run_laws_eqStringS : Run := lim G_laws_eqStringS fid_laws_eqStringS
theorem ok_laws_eqStringS : FnOk Tryd.prog OkT fid_laws_eqStringS run_laws_eqStringS := lim_ok (l := pl_laws_eqStringS) Tryd_mix tyTab_ok fiTab_ok okT .nil fid_laws_eqStringS
noncomputable def laws_eqStringS_l0 (k m : Nat) : Nat → Cell → Cell → Int → Option Res
  | 0, _, _, _ => none
  | n + 1, c5, c6, i7 =>
    (lenC c5).bind fun n8 =>
    cond (decide (i7 < (n8 : Int)))
    ((idxA 1 (c5) i7).bind fun c9 =>
    (deref [] (c9)).bind fun p10 =>
    (cS p10.1 p10.2).bind fun s11 =>
    (idxA 1 (c6) i7).bind fun c12 =>
    (deref [] (c12)).bind fun p13 =>
    (cS p13.1 p13.2).bind fun s14 =>
    cond (!(s11.toList == s14.toList))
    (some ([.one (Cell.bool false)], []))
    (laws_eqStringS_l0 k m n (c5) (c6) (IntKind.i64.wrap (i7 + 1))))
    (some ([.one (Cell.bool true)], []))
noncomputable def laws_eqStringS (k m : Nat) (c1 : Cell) (c2 : Cell) : Option Res :=
  (lenC c1).bind fun n3 =>
  (lenC c2).bind fun n4 =>
  cond ((n3 : Int) != (n4 : Int))
  (some ([.one (Cell.bool false)], []))
  (laws_eqStringS_l0 k m m (c1) (c2) 0)
noncomputable abbrev laws_eqStringS_l0_B (k m : Nat) : (Ex → Fr → Option Res) → Fr → Option Res := evC G_laws_eqStringS fi_laws_eqStringS (evF G_laws_eqStringS (k + 1)) m (sub [1, 1, 0, 1, 2, 3] fi_laws_eqStringS.code) none
noncomputable abbrev laws_eqStringS_l0_K (k m : Nat) : Ex → Fr → Option Res := blockK 0 (seqK (evC G_laws_eqStringS fi_laws_eqStringS (evF G_laws_eqStringS (k + 1)) m (sub [1, 1, 1] fi_laws_eqStringS.code) none) (retK G_laws_eqStringS fi_laws_eqStringS))
theorem laws_eqStringS_l0_eq (k m : Nat) : ∀ (n : Nat) (c5 : Cell) (c6 : Cell) (i7 : Int), loopK (some [0, 1, 5]) (laws_eqStringS_l0_B k m) (laws_eqStringS_l0_K k m) n ⟨fT 26 0 [(0, .av (.one (c5))), (1, .av (.one (c6))), (5, .av (.one (Cell.int i7)))], fX 26 0 [], []⟩ = laws_eqStringS_l0 (k + 1) m n c5 c6 i7 := by
  intro n
  induction n with
  | zero => intros; rfl
  | succ n ih =>
    intros
    simp only [laws_eqStringS_l0, ← ih]
    kernel_rfl
theorem laws_eqStringS_code (k m : Nat) (c1 : Cell) (c2 : Cell) : evC G_laws_eqStringS fi_laws_eqStringS (evF G_laws_eqStringS (k + 1)) m fi_laws_eqStringS.code none (retK G_laws_eqStringS fi_laws_eqStringS) (enter fi_laws_eqStringS [.one (c1), .one (c2)] []) = laws_eqStringS (k + 1) m c1 c2 := by
  simp only [laws_eqStringS, ← laws_eqStringS_l0_eq k m]
  kernel_rfl
theorem laws_eqStringS_eq (k : Nat) (c1 : Cell) (c2 : Cell) : evF G_laws_eqStringS (k + 2) fid_laws_eqStringS [.one (c1), .one (c2)] [] = laws_eqStringS (k + 1) (k + 1) c1 c2 :=
  Eq.trans (by kernel_rfl) (laws_eqStringS_code k (k + 1) c1 c2)
theorem run_laws_eqStringS_of {c1 : Cell} {c2 : Cell} {r : Res} (k : Nat) (h : laws_eqStringS (k + 1) (k + 1) c1 c2 = some r) : run_laws_eqStringS [.one (c1), .one (c2)] [] = some r := lim_of ((laws_eqStringS_eq k c1 c2).trans h)
noncomputable def pl_laws_eqEnv : List (Nat × Run) := []
noncomputable def G_laws_eqEnv : Ctx := ctx tyTab fiTab pl_laws_eqEnv
noncomputable def run_laws_eqEnv : Run := lim G_laws_eqEnv fid_laws_eqEnv
theorem ok_laws_eqEnv : FnOk Tryd.prog OkT fid_laws_eqEnv run_laws_eqEnv := lim_ok (l := pl_laws_eqEnv) Tryd_mix tyTab_ok fiTab_ok okT .nil fid_laws_eqEnv
noncomputable def laws_eqEnv (k m : Nat) (s1 : ByteArray) (s2 : ByteArray) (s3 : ByteArray) (s4 : ByteArray) : Option Res :=
  cond (!(s1.toList == s3.toList))
  (some ([.one (Cell.bool false)], []))
  (cond (!(s2.toList == s4.toList))
  (some ([.one (Cell.bool false)], []))
  (some ([.one (Cell.bool true)], [])))
theorem laws_eqEnv_code (k m : Nat) (s1 : ByteArray) (s2 : ByteArray) (s3 : ByteArray) (s4 : ByteArray) : evC G_laws_eqEnv fi_laws_eqEnv (evF G_laws_eqEnv (k + 1)) m fi_laws_eqEnv.code none (retK G_laws_eqEnv fi_laws_eqEnv) (enter fi_laws_eqEnv [.agg [Cell.str s1, Cell.str s2], .agg [Cell.str s3, Cell.str s4]] []) = laws_eqEnv (k + 1) m s1 s2 s3 s4 := by
  kernel_rfl
theorem laws_eqEnv_eq (k : Nat) (s1 : ByteArray) (s2 : ByteArray) (s3 : ByteArray) (s4 : ByteArray) : evF G_laws_eqEnv (k + 2) fid_laws_eqEnv [.agg [Cell.str s1, Cell.str s2], .agg [Cell.str s3, Cell.str s4]] [] = laws_eqEnv (k + 1) (k + 1) s1 s2 s3 s4 :=
  Eq.trans (by kernel_rfl) (laws_eqEnv_code k (k + 1) s1 s2 s3 s4)
theorem run_laws_eqEnv_of {s1 : ByteArray} {s2 : ByteArray} {s3 : ByteArray} {s4 : ByteArray} {r : Res} (k : Nat) (h : laws_eqEnv (k + 1) (k + 1) s1 s2 s3 s4 = some r) : run_laws_eqEnv [.agg [Cell.str s1, Cell.str s2], .agg [Cell.str s3, Cell.str s4]] [] = some r := lim_of ((laws_eqEnv_eq k s1 s2 s3 s4).trans h)
noncomputable def pl_laws_eqEnvS : List (Nat × Run) := [(fid_laws_eqEnv, run_laws_eqEnv)]
noncomputable def G_laws_eqEnvS : Ctx := ctx tyTab fiTab pl_laws_eqEnvS
noncomputable def run_laws_eqEnvS : Run := lim G_laws_eqEnvS fid_laws_eqEnvS
theorem ok_laws_eqEnvS : FnOk Tryd.prog OkT fid_laws_eqEnvS run_laws_eqEnvS := lim_ok (l := pl_laws_eqEnvS) Tryd_mix tyTab_ok fiTab_ok okT (.cons ok_laws_eqEnv .nil) fid_laws_eqEnvS
noncomputable def laws_eqEnvS_l0 (k m : Nat) : Nat → Cell → Cell → Int → Option Res
  | 0, _, _, _ => none
  | n + 1, c5, c6, i7 =>
    (lenC c5).bind fun n8 =>
    cond (decide (i7 < (n8 : Int)))
    ((idxA 2 (c5) i7).bind fun c9 =>
    (deref [] (c9)).bind fun p10 =>
    (cS p10.1 p10.2).bind fun s11 =>
    (cS p10.1 (p10.2 + 1)).bind fun s12 =>
    (idxA 2 (c6) i7).bind fun c13 =>
    (deref [] (c13)).bind fun p14 =>
    (cS p14.1 p14.2).bind fun s15 =>
    (cS p14.1 (p14.2 + 1)).bind fun s16 =>
    (callS run_laws_eqEnv [.agg [Cell.str s11, Cell.str s12], .agg [Cell.str s15, Cell.str s16]] []).bind fun r17 =>
    cond (shapeOk rk_laws_eqEnv r17)
    ((cB (cellsAt r17 0) 0).bind fun b18 =>
    cond (!b18)
    (some ([.one (Cell.bool false)], []))
    (laws_eqEnvS_l0 k m n (c5) (c6) (IntKind.i64.wrap (i7 + 1))))
    none)
    (some ([.one (Cell.bool true)], []))
noncomputable def laws_eqEnvS (k m : Nat) (c1 : Cell) (c2 : Cell) : Option Res :=
  (lenC c1).bind fun n3 =>
  (lenC c2).bind fun n4 =>
  cond ((n3 : Int) != (n4 : Int))
  (some ([.one (Cell.bool false)], []))
  (laws_eqEnvS_l0 k m m (c1) (c2) 0)
noncomputable abbrev laws_eqEnvS_l0_B (k m : Nat) : (Ex → Fr → Option Res) → Fr → Option Res := evC G_laws_eqEnvS fi_laws_eqEnvS (evF G_laws_eqEnvS (k + 1)) m (sub [1, 1, 0, 1, 2, 3] fi_laws_eqEnvS.code) none
noncomputable abbrev laws_eqEnvS_l0_K (k m : Nat) : Ex → Fr → Option Res := blockK 0 (seqK (evC G_laws_eqEnvS fi_laws_eqEnvS (evF G_laws_eqEnvS (k + 1)) m (sub [1, 1, 1] fi_laws_eqEnvS.code) none) (retK G_laws_eqEnvS fi_laws_eqEnvS))
theorem laws_eqEnvS_l0_eq (k m : Nat) : ∀ (n : Nat) (c5 : Cell) (c6 : Cell) (i7 : Int), loopK (some [0, 1, 5]) (laws_eqEnvS_l0_B k m) (laws_eqEnvS_l0_K k m) n ⟨fT 27 0 [(0, .av (.one (c5))), (1, .av (.one (c6))), (5, .av (.one (Cell.int i7)))], fX 27 0 [], []⟩ = laws_eqEnvS_l0 (k + 1) m n c5 c6 i7 := by
  intro n
  induction n with
  | zero => intros; rfl
  | succ n ih =>
    intros
    simp only [laws_eqEnvS_l0, ← ih]
    kernel_rfl
theorem laws_eqEnvS_code (k m : Nat) (c1 : Cell) (c2 : Cell) : evC G_laws_eqEnvS fi_laws_eqEnvS (evF G_laws_eqEnvS (k + 1)) m fi_laws_eqEnvS.code none (retK G_laws_eqEnvS fi_laws_eqEnvS) (enter fi_laws_eqEnvS [.one (c1), .one (c2)] []) = laws_eqEnvS (k + 1) m c1 c2 := by
  simp only [laws_eqEnvS, ← laws_eqEnvS_l0_eq k m]
  kernel_rfl
theorem laws_eqEnvS_eq (k : Nat) (c1 : Cell) (c2 : Cell) : evF G_laws_eqEnvS (k + 2) fid_laws_eqEnvS [.one (c1), .one (c2)] [] = laws_eqEnvS (k + 1) (k + 1) c1 c2 :=
  Eq.trans (by kernel_rfl) (laws_eqEnvS_code k (k + 1) c1 c2)
theorem run_laws_eqEnvS_of {c1 : Cell} {c2 : Cell} {r : Res} (k : Nat) (h : laws_eqEnvS (k + 1) (k + 1) c1 c2 = some r) : run_laws_eqEnvS [.one (c1), .one (c2)] [] = some r := lim_of ((laws_eqEnvS_eq k c1 c2).trans h)
noncomputable def pl_laws_eqMade : List (Nat × Run) := [(fid_laws_eqFileS, run_laws_eqFileS)]
noncomputable def G_laws_eqMade : Ctx := ctx tyTab fiTab pl_laws_eqMade
noncomputable def run_laws_eqMade : Run := lim G_laws_eqMade fid_laws_eqMade
theorem ok_laws_eqMade : FnOk Tryd.prog OkT fid_laws_eqMade run_laws_eqMade := lim_ok (l := pl_laws_eqMade) Tryd_mix tyTab_ok fiTab_ok okT (.cons ok_laws_eqFileS .nil) fid_laws_eqMade
noncomputable def laws_eqMade (k m : Nat) (s1 : ByteArray) (c2 : Cell) (s3 : ByteArray) (s4 : ByteArray) (c5 : Cell) (s6 : ByteArray) : Option Res :=
  cond (!(s1.toList == s4.toList))
  (some ([.one (Cell.bool false)], []))
  ((callS run_laws_eqFileS [.one (c2), .one (c5)] []).bind fun r7 =>
  cond (shapeOk rk_laws_eqFileS r7)
  ((cB (cellsAt r7 0) 0).bind fun b8 =>
  cond (!b8)
  (some ([.one (Cell.bool false)], []))
  (cond (!(s3.toList == s6.toList))
  (some ([.one (Cell.bool false)], []))
  (some ([.one (Cell.bool true)], []))))
  none)
theorem laws_eqMade_code (k m : Nat) (s1 : ByteArray) (c2 : Cell) (s3 : ByteArray) (s4 : ByteArray) (c5 : Cell) (s6 : ByteArray) : evC G_laws_eqMade fi_laws_eqMade (evF G_laws_eqMade (k + 1)) m fi_laws_eqMade.code none (retK G_laws_eqMade fi_laws_eqMade) (enter fi_laws_eqMade [.agg [Cell.str s1, c2, Cell.str s3], .agg [Cell.str s4, c5, Cell.str s6]] []) = laws_eqMade (k + 1) m s1 c2 s3 s4 c5 s6 := by
  kernel_rfl
theorem laws_eqMade_eq (k : Nat) (s1 : ByteArray) (c2 : Cell) (s3 : ByteArray) (s4 : ByteArray) (c5 : Cell) (s6 : ByteArray) : evF G_laws_eqMade (k + 2) fid_laws_eqMade [.agg [Cell.str s1, c2, Cell.str s3], .agg [Cell.str s4, c5, Cell.str s6]] [] = laws_eqMade (k + 1) (k + 1) s1 c2 s3 s4 c5 s6 :=
  Eq.trans (by kernel_rfl) (laws_eqMade_code k (k + 1) s1 c2 s3 s4 c5 s6)
theorem run_laws_eqMade_of {s1 : ByteArray} {c2 : Cell} {s3 : ByteArray} {s4 : ByteArray} {c5 : Cell} {s6 : ByteArray} {r : Res} (k : Nat) (h : laws_eqMade (k + 1) (k + 1) s1 c2 s3 s4 c5 s6 = some r) : run_laws_eqMade [.agg [Cell.str s1, c2, Cell.str s3], .agg [Cell.str s4, c5, Cell.str s6]] [] = some r := lim_of ((laws_eqMade_eq k s1 c2 s3 s4 c5 s6).trans h)
noncomputable def pl_laws_eqMadeS : List (Nat × Run) := [(fid_laws_eqMade, run_laws_eqMade)]
noncomputable def G_laws_eqMadeS : Ctx := ctx tyTab fiTab pl_laws_eqMadeS
noncomputable def run_laws_eqMadeS : Run := lim G_laws_eqMadeS fid_laws_eqMadeS
theorem ok_laws_eqMadeS : FnOk Tryd.prog OkT fid_laws_eqMadeS run_laws_eqMadeS := lim_ok (l := pl_laws_eqMadeS) Tryd_mix tyTab_ok fiTab_ok okT (.cons ok_laws_eqMade .nil) fid_laws_eqMadeS
noncomputable def laws_eqMadeS_l0 (k m : Nat) : Nat → Cell → Cell → Int → Option Res
  | 0, _, _, _ => none
  | n + 1, c5, c6, i7 =>
    (lenC c5).bind fun n8 =>
    cond (decide (i7 < (n8 : Int)))
    ((idxA 3 (c5) i7).bind fun c9 =>
    (deref [] (c9)).bind fun p10 =>
    (cS p10.1 p10.2).bind fun s11 =>
    (cC p10.1 (p10.2 + 1)).bind fun c12 =>
    (cS p10.1 ((p10.2 + 1) + 1)).bind fun s13 =>
    (idxA 3 (c6) i7).bind fun c14 =>
    (deref [] (c14)).bind fun p15 =>
    (cS p15.1 p15.2).bind fun s16 =>
    (cC p15.1 (p15.2 + 1)).bind fun c17 =>
    (cS p15.1 ((p15.2 + 1) + 1)).bind fun s18 =>
    (callS run_laws_eqMade [.agg [Cell.str s11, c12, Cell.str s13], .agg [Cell.str s16, c17, Cell.str s18]] []).bind fun r19 =>
    cond (shapeOk rk_laws_eqMade r19)
    ((cB (cellsAt r19 0) 0).bind fun b20 =>
    cond (!b20)
    (some ([.one (Cell.bool false)], []))
    (laws_eqMadeS_l0 k m n (c5) (c6) (IntKind.i64.wrap (i7 + 1))))
    none)
    (some ([.one (Cell.bool true)], []))
noncomputable def laws_eqMadeS (k m : Nat) (c1 : Cell) (c2 : Cell) : Option Res :=
  (lenC c1).bind fun n3 =>
  (lenC c2).bind fun n4 =>
  cond ((n3 : Int) != (n4 : Int))
  (some ([.one (Cell.bool false)], []))
  (laws_eqMadeS_l0 k m m (c1) (c2) 0)
noncomputable abbrev laws_eqMadeS_l0_B (k m : Nat) : (Ex → Fr → Option Res) → Fr → Option Res := evC G_laws_eqMadeS fi_laws_eqMadeS (evF G_laws_eqMadeS (k + 1)) m (sub [1, 1, 0, 1, 2, 3] fi_laws_eqMadeS.code) none
noncomputable abbrev laws_eqMadeS_l0_K (k m : Nat) : Ex → Fr → Option Res := blockK 0 (seqK (evC G_laws_eqMadeS fi_laws_eqMadeS (evF G_laws_eqMadeS (k + 1)) m (sub [1, 1, 1] fi_laws_eqMadeS.code) none) (retK G_laws_eqMadeS fi_laws_eqMadeS))
theorem laws_eqMadeS_l0_eq (k m : Nat) : ∀ (n : Nat) (c5 : Cell) (c6 : Cell) (i7 : Int), loopK (some [0, 1, 5]) (laws_eqMadeS_l0_B k m) (laws_eqMadeS_l0_K k m) n ⟨fT 27 0 [(0, .av (.one (c5))), (1, .av (.one (c6))), (5, .av (.one (Cell.int i7)))], fX 27 0 [], []⟩ = laws_eqMadeS_l0 (k + 1) m n c5 c6 i7 := by
  intro n
  induction n with
  | zero => intros; rfl
  | succ n ih =>
    intros
    simp only [laws_eqMadeS_l0, ← ih]
    kernel_rfl
theorem laws_eqMadeS_code (k m : Nat) (c1 : Cell) (c2 : Cell) : evC G_laws_eqMadeS fi_laws_eqMadeS (evF G_laws_eqMadeS (k + 1)) m fi_laws_eqMadeS.code none (retK G_laws_eqMadeS fi_laws_eqMadeS) (enter fi_laws_eqMadeS [.one (c1), .one (c2)] []) = laws_eqMadeS (k + 1) m c1 c2 := by
  simp only [laws_eqMadeS, ← laws_eqMadeS_l0_eq k m]
  kernel_rfl
theorem laws_eqMadeS_eq (k : Nat) (c1 : Cell) (c2 : Cell) : evF G_laws_eqMadeS (k + 2) fid_laws_eqMadeS [.one (c1), .one (c2)] [] = laws_eqMadeS (k + 1) (k + 1) c1 c2 :=
  Eq.trans (by kernel_rfl) (laws_eqMadeS_code k (k + 1) c1 c2)
theorem run_laws_eqMadeS_of {c1 : Cell} {c2 : Cell} {r : Res} (k : Nat) (h : laws_eqMadeS (k + 1) (k + 1) c1 c2 = some r) : run_laws_eqMadeS [.one (c1), .one (c2)] [] = some r := lim_of ((laws_eqMadeS_eq k c1 c2).trans h)
noncomputable def pl_laws_eqJob : List (Nat × Run) := [(fid_laws_eqFileS, run_laws_eqFileS), (fid_laws_eqStringS, run_laws_eqStringS), (fid_laws_eqEnvS, run_laws_eqEnvS), (fid_laws_eqMadeS, run_laws_eqMadeS)]
noncomputable def G_laws_eqJob : Ctx := ctx tyTab fiTab pl_laws_eqJob
noncomputable def run_laws_eqJob : Run := lim G_laws_eqJob fid_laws_eqJob
theorem ok_laws_eqJob : FnOk Tryd.prog OkT fid_laws_eqJob run_laws_eqJob := lim_ok (l := pl_laws_eqJob) Tryd_mix tyTab_ok fiTab_ok okT (.cons ok_laws_eqFileS (.cons ok_laws_eqStringS (.cons ok_laws_eqEnvS (.cons ok_laws_eqMadeS .nil)))) fid_laws_eqJob
noncomputable def laws_eqJob (k m : Nat) (s1 : ByteArray) (c2 : Cell) (c3 : Cell) (c4 : Cell) (c5 : Cell) (s6 : ByteArray) (c7 : Cell) (c8 : Cell) (c9 : Cell) (c10 : Cell) : Option Res :=
  cond (!(s1.toList == s6.toList))
  (some ([.one (Cell.bool false)], []))
  ((callS run_laws_eqStringS [.one (c2), .one (c7)] []).bind fun r11 =>
  cond (shapeOk rk_laws_eqStringS r11)
  ((cB (cellsAt r11 0) 0).bind fun b12 =>
  cond (!b12)
  (some ([.one (Cell.bool false)], []))
  ((callS run_laws_eqFileS [.one (c3), .one (c8)] []).bind fun r13 =>
  cond (shapeOk rk_laws_eqFileS r13)
  ((cB (cellsAt r13 0) 0).bind fun b14 =>
  cond (!b14)
  (some ([.one (Cell.bool false)], []))
  ((callS run_laws_eqEnvS [.one (c4), .one (c9)] []).bind fun r15 =>
  cond (shapeOk rk_laws_eqEnvS r15)
  ((cB (cellsAt r15 0) 0).bind fun b16 =>
  cond (!b16)
  (some ([.one (Cell.bool false)], []))
  ((callS run_laws_eqMadeS [.one (c5), .one (c10)] []).bind fun r17 =>
  cond (shapeOk rk_laws_eqMadeS r17)
  ((cB (cellsAt r17 0) 0).bind fun b18 =>
  cond (!b18)
  (some ([.one (Cell.bool false)], []))
  (some ([.one (Cell.bool true)], [])))
  none))
  none))
  none))
  none)
theorem laws_eqJob_code (k m : Nat) (s1 : ByteArray) (c2 : Cell) (c3 : Cell) (c4 : Cell) (c5 : Cell) (s6 : ByteArray) (c7 : Cell) (c8 : Cell) (c9 : Cell) (c10 : Cell) : evC G_laws_eqJob fi_laws_eqJob (evF G_laws_eqJob (k + 1)) m fi_laws_eqJob.code none (retK G_laws_eqJob fi_laws_eqJob) (enter fi_laws_eqJob [.agg [Cell.str s1, c2, c3, c4, c5], .agg [Cell.str s6, c7, c8, c9, c10]] []) = laws_eqJob (k + 1) m s1 c2 c3 c4 c5 s6 c7 c8 c9 c10 := by
  kernel_rfl
theorem laws_eqJob_eq (k : Nat) (s1 : ByteArray) (c2 : Cell) (c3 : Cell) (c4 : Cell) (c5 : Cell) (s6 : ByteArray) (c7 : Cell) (c8 : Cell) (c9 : Cell) (c10 : Cell) : evF G_laws_eqJob (k + 2) fid_laws_eqJob [.agg [Cell.str s1, c2, c3, c4, c5], .agg [Cell.str s6, c7, c8, c9, c10]] [] = laws_eqJob (k + 1) (k + 1) s1 c2 c3 c4 c5 s6 c7 c8 c9 c10 :=
  Eq.trans (by kernel_rfl) (laws_eqJob_code k (k + 1) s1 c2 c3 c4 c5 s6 c7 c8 c9 c10)
theorem run_laws_eqJob_of {s1 : ByteArray} {c2 : Cell} {c3 : Cell} {c4 : Cell} {c5 : Cell} {s6 : ByteArray} {c7 : Cell} {c8 : Cell} {c9 : Cell} {c10 : Cell} {r : Res} (k : Nat) (h : laws_eqJob (k + 1) (k + 1) s1 c2 c3 c4 c5 s6 c7 c8 c9 c10 = some r) : run_laws_eqJob [.agg [Cell.str s1, c2, c3, c4, c5], .agg [Cell.str s6, c7, c8, c9, c10]] [] = some r := lim_of ((laws_eqJob_eq k s1 c2 c3 c4 c5 s6 c7 c8 c9 c10).trans h)
noncomputable def pl_laws_markText : List (Nat × Run) := []
noncomputable def G_laws_markText : Ctx := ctx tyTab fiTab pl_laws_markText
noncomputable def run_laws_markText : Run := lim G_laws_markText fid_laws_markText
theorem ok_laws_markText : FnOk Tryd.prog OkT fid_laws_markText run_laws_markText := lim_ok (l := pl_laws_markText) Tryd_mix tyTab_ok fiTab_ok okT .nil fid_laws_markText
noncomputable def laws_markText_l0 (k m : Nat) : Nat → Int → ByteArray → Option Res
  | 0, _, _ => none
  | n + 1, i2, s3 =>
    cond (decide (i2 > 0))
    ((bytesOf [] (.lst true 1 [[.sc (.int .u8 (IntKind.u8.wrap (IntKind.i64.wrap (48 + (i2.tmod 10)))))]])).bind fun s4 =>
    (catS s4 s3).bind fun s5 =>
    laws_markText_l0 k m n (IntKind.i64.wrap (i2.tdiv 10)) s5)
    ((catS (bs [109]) s3).bind fun s6 =>
    some ([.one (Cell.str s6)], []))
noncomputable def laws_markText (k m : Nat) (i1 : Int) : Option Res :=
  cond (decide (i1 ≤ 0))
  (some ([.one (Cell.str (bs [109, 48]))], []))
  (laws_markText_l0 k m m i1 (bs []))
noncomputable abbrev laws_markText_l0_B (k m : Nat) : (Ex → Fr → Option Res) → Fr → Option Res := evC G_laws_markText fi_laws_markText (evF G_laws_markText (k + 1)) m (sub [1, 1, 1, 0, 2, 3] fi_laws_markText.code) none
noncomputable abbrev laws_markText_l0_K (k m : Nat) : Ex → Fr → Option Res := blockK 0 (seqK (evC G_laws_markText fi_laws_markText (evF G_laws_markText (k + 1)) m (sub [1, 1, 1, 1] fi_laws_markText.code) none) (retK G_laws_markText fi_laws_markText))
theorem laws_markText_l0_eq (k m : Nat) : ∀ (n : Nat) (i2 : Int) (s3 : ByteArray), loopK (some [0, 3]) (laws_markText_l0_B k m) (laws_markText_l0_K k m) n ⟨fT 20 0 [(0, .av (.one (Cell.int i2))), (3, .av (.one (Cell.str s3)))], fX 20 0 [], []⟩ = laws_markText_l0 (k + 1) m n i2 s3 := by
  intro n
  induction n with
  | zero => intros; rfl
  | succ n ih =>
    intros
    simp only [laws_markText_l0, ← ih]
    kernel_rfl
theorem laws_markText_code (k m : Nat) (i1 : Int) : evC G_laws_markText fi_laws_markText (evF G_laws_markText (k + 1)) m fi_laws_markText.code none (retK G_laws_markText fi_laws_markText) (enter fi_laws_markText [.one (Cell.int i1)] []) = laws_markText (k + 1) m i1 := by
  simp only [laws_markText, ← laws_markText_l0_eq k m]
  kernel_rfl
theorem laws_markText_eq (k : Nat) (i1 : Int) : evF G_laws_markText (k + 2) fid_laws_markText [.one (Cell.int i1)] [] = laws_markText (k + 1) (k + 1) i1 :=
  Eq.trans (by kernel_rfl) (laws_markText_code k (k + 1) i1)
theorem run_laws_markText_of {i1 : Int} {r : Res} (k : Nat) (h : laws_markText (k + 1) (k + 1) i1 = some r) : run_laws_markText [.one (Cell.int i1)] [] = some r := lim_of ((laws_markText_eq k i1).trans h)
noncomputable def pl_laws_markFileS : List (Nat × Run) := [(fid_laws_markText, run_laws_markText)]
noncomputable def G_laws_markFileS : Ctx := ctx tyTab fiTab pl_laws_markFileS
noncomputable def run_laws_markFileS : Run := lim G_laws_markFileS fid_laws_markFileS
theorem ok_laws_markFileS : FnOk Tryd.prog OkT fid_laws_markFileS run_laws_markFileS := lim_ok (l := pl_laws_markFileS) Tryd_mix tyTab_ok fiTab_ok okT (.cons ok_laws_markText .nil) fid_laws_markFileS
noncomputable def laws_markFileS_l0 (k m : Nat) : Nat → Cell → Int → Int → List Entry → Option Res
  | 0, _, _, _, _ => none
  | n + 1, c3, i4, i5, H6 =>
    (lenC c3).bind fun n7 =>
    cond (decide (i5 < (n7 : Int)))
    ((callS run_laws_markText [.one (Cell.int i4)] H6).bind fun r8 =>
    cond (shapeOk rk_laws_markText r8)
    ((cS (cellsAt r8 0) 0).bind fun s9 =>
    (idxA 2 (c3) i5).bind fun c10 =>
    (fldA c10 0).bind fun c11 =>
    (hStore H6 (c11) [Cell.str s9]).bind fun h12 =>
    (callS run_laws_markText [.one (Cell.int (IntKind.i64.wrap (i4 + 1)))] h12).bind fun r13 =>
    cond (shapeOk rk_laws_markText r13)
    ((cS (cellsAt r13 0) 0).bind fun s14 =>
    (idxA 2 (c3) i5).bind fun c15 =>
    (fldA c15 1).bind fun c16 =>
    (hStore h12 (c16) [Cell.str s14]).bind fun h17 =>
    laws_markFileS_l0 k m n (c3) (IntKind.i64.wrap ((IntKind.i64.wrap (i4 + 1)) + 1)) (IntKind.i64.wrap (i5 + 1)) h17)
    none)
    none)
    (some ([.one (Cell.int i4)], H6))
noncomputable def laws_markFileS (k m : Nat) (c1 : Cell) (i2 : Int) (H : List Entry) : Option Res :=
  laws_markFileS_l0 k m m (c1) i2 0 H
noncomputable abbrev laws_markFileS_l0_B (k m : Nat) : (Ex → Fr → Option Res) → Fr → Option Res := evC G_laws_markFileS fi_laws_markFileS (evF G_laws_markFileS (k + 1)) m (sub [1, 0, 1, 2, 3] fi_laws_markFileS.code) none
noncomputable abbrev laws_markFileS_l0_K (k m : Nat) : Ex → Fr → Option Res := blockK 0 (seqK (evC G_laws_markFileS fi_laws_markFileS (evF G_laws_markFileS (k + 1)) m (sub [1, 1] fi_laws_markFileS.code) none) (retK G_laws_markFileS fi_laws_markFileS))
theorem laws_markFileS_l0_eq (k m : Nat) : ∀ (n : Nat) (c3 : Cell) (i4 : Int) (i5 : Int) (H6 : List Entry), loopK (some [0, 1, 5]) (laws_markFileS_l0_B k m) (laws_markFileS_l0_K k m) n ⟨fT 29 0 [(0, .av (.one (c3))), (1, .av (.one (Cell.int i4))), (5, .av (.one (Cell.int i5)))], fX 29 0 [], H6⟩ = laws_markFileS_l0 (k + 1) m n c3 i4 i5 H6 := by
  intro n
  induction n with
  | zero => intros; rfl
  | succ n ih =>
    intros
    simp only [laws_markFileS_l0, ← ih]
    kernel_rfl
theorem laws_markFileS_code (k m : Nat) (c1 : Cell) (i2 : Int) (H : List Entry) : evC G_laws_markFileS fi_laws_markFileS (evF G_laws_markFileS (k + 1)) m fi_laws_markFileS.code none (retK G_laws_markFileS fi_laws_markFileS) (enter fi_laws_markFileS [.one (c1), .one (Cell.int i2)] H) = laws_markFileS (k + 1) m c1 i2 H := by
  simp only [laws_markFileS, ← laws_markFileS_l0_eq k m]
  kernel_rfl
theorem laws_markFileS_eq (k : Nat) (c1 : Cell) (i2 : Int) (H : List Entry) : evF G_laws_markFileS (k + 2) fid_laws_markFileS [.one (c1), .one (Cell.int i2)] H = laws_markFileS (k + 1) (k + 1) c1 i2 H :=
  Eq.trans (by kernel_rfl) (laws_markFileS_code k (k + 1) c1 i2 H)
theorem run_laws_markFileS_of {c1 : Cell} {i2 : Int} {H : List Entry} {r : Res} (k : Nat) (h : laws_markFileS (k + 1) (k + 1) c1 i2 H = some r) : run_laws_markFileS [.one (c1), .one (Cell.int i2)] H = some r := lim_of ((laws_markFileS_eq k c1 i2 H).trans h)
noncomputable def pl_laws_markStringS : List (Nat × Run) := [(fid_laws_markText, run_laws_markText)]
noncomputable def G_laws_markStringS : Ctx := ctx tyTab fiTab pl_laws_markStringS
noncomputable def run_laws_markStringS : Run := lim G_laws_markStringS fid_laws_markStringS
theorem ok_laws_markStringS : FnOk Tryd.prog OkT fid_laws_markStringS run_laws_markStringS := lim_ok (l := pl_laws_markStringS) Tryd_mix tyTab_ok fiTab_ok okT (.cons ok_laws_markText .nil) fid_laws_markStringS
noncomputable def laws_markStringS_l0 (k m : Nat) : Nat → Cell → Int → Int → List Entry → Option Res
  | 0, _, _, _, _ => none
  | n + 1, c3, i4, i5, H6 =>
    (lenC c3).bind fun n7 =>
    cond (decide (i5 < (n7 : Int)))
    ((callS run_laws_markText [.one (Cell.int i4)] H6).bind fun r8 =>
    cond (shapeOk rk_laws_markText r8)
    ((cS (cellsAt r8 0) 0).bind fun s9 =>
    (idxA 1 (c3) i5).bind fun c10 =>
    (hStore H6 (c10) [Cell.str s9]).bind fun h11 =>
    laws_markStringS_l0 k m n (c3) (IntKind.i64.wrap (i4 + 1)) (IntKind.i64.wrap (i5 + 1)) h11)
    none)
    (some ([.one (Cell.int i4)], H6))
noncomputable def laws_markStringS (k m : Nat) (c1 : Cell) (i2 : Int) (H : List Entry) : Option Res :=
  laws_markStringS_l0 k m m (c1) i2 0 H
noncomputable abbrev laws_markStringS_l0_B (k m : Nat) : (Ex → Fr → Option Res) → Fr → Option Res := evC G_laws_markStringS fi_laws_markStringS (evF G_laws_markStringS (k + 1)) m (sub [1, 0, 1, 2, 3] fi_laws_markStringS.code) none
noncomputable abbrev laws_markStringS_l0_K (k m : Nat) : Ex → Fr → Option Res := blockK 0 (seqK (evC G_laws_markStringS fi_laws_markStringS (evF G_laws_markStringS (k + 1)) m (sub [1, 1] fi_laws_markStringS.code) none) (retK G_laws_markStringS fi_laws_markStringS))
theorem laws_markStringS_l0_eq (k m : Nat) : ∀ (n : Nat) (c3 : Cell) (i4 : Int) (i5 : Int) (H6 : List Entry), loopK (some [0, 1, 5]) (laws_markStringS_l0_B k m) (laws_markStringS_l0_K k m) n ⟨fT 20 0 [(0, .av (.one (c3))), (1, .av (.one (Cell.int i4))), (5, .av (.one (Cell.int i5)))], fX 20 0 [], H6⟩ = laws_markStringS_l0 (k + 1) m n c3 i4 i5 H6 := by
  intro n
  induction n with
  | zero => intros; rfl
  | succ n ih =>
    intros
    simp only [laws_markStringS_l0, ← ih]
    kernel_rfl
theorem laws_markStringS_code (k m : Nat) (c1 : Cell) (i2 : Int) (H : List Entry) : evC G_laws_markStringS fi_laws_markStringS (evF G_laws_markStringS (k + 1)) m fi_laws_markStringS.code none (retK G_laws_markStringS fi_laws_markStringS) (enter fi_laws_markStringS [.one (c1), .one (Cell.int i2)] H) = laws_markStringS (k + 1) m c1 i2 H := by
  simp only [laws_markStringS, ← laws_markStringS_l0_eq k m]
  kernel_rfl
theorem laws_markStringS_eq (k : Nat) (c1 : Cell) (i2 : Int) (H : List Entry) : evF G_laws_markStringS (k + 2) fid_laws_markStringS [.one (c1), .one (Cell.int i2)] H = laws_markStringS (k + 1) (k + 1) c1 i2 H :=
  Eq.trans (by kernel_rfl) (laws_markStringS_code k (k + 1) c1 i2 H)
theorem run_laws_markStringS_of {c1 : Cell} {i2 : Int} {H : List Entry} {r : Res} (k : Nat) (h : laws_markStringS (k + 1) (k + 1) c1 i2 H = some r) : run_laws_markStringS [.one (c1), .one (Cell.int i2)] H = some r := lim_of ((laws_markStringS_eq k c1 i2 H).trans h)
end Go.Ev
