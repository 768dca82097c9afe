/- Conditions: none. -/
import Derived.Test.YtholafaogipaiaaGreatDoorSh2
import Derived.KernelRfl
namespace Go.Ev
open Go Go.Proofs
set_option maxRecDepth 100000
set_option linter.unusedVariables false
set_option linter.unusedSimpArgs false
noncomputable def pl_fcm : List (Nat × Run) := [(fid_fcl, run_fcl)]
noncomputable def G_fcm : Ctx := ctx tyTab fiTab pl_fcm
noncomputable def run_fcm : Run := lim G_fcm fid_fcm
theorem ok_fcm : FnOk Tryz.prog OkT fid_fcm run_fcm := lim_ok (l := pl_fcm) Tryz_mix tyTab_ok fiTab_ok okT (.cons ok_fcl .nil) fid_fcm
noncomputable def fcm_l0 (k m : Nat) : Nat → Cell → Cell → Int → List Entry → Option Res
  | 0, _, _, _, _ => none
  | n + 1, c3, c4, i5, H6 =>
    (lenC c3).bind fun n7 =>
    cond (decide (i5 < (n7 : Int)))
    ((idxA 2 (c3) i5).bind fun c8 =>
    (deref H6 (c8)).bind fun p9 =>
    (cS p9.1 p9.2).bind fun s10 =>
    (cS p9.1 (p9.2 + 1)).bind fun s11 =>
    (callS run_fcl [.agg [Cell.str s10, Cell.str s11]] H6).bind fun r12 =>
    cond (shapeOk rk_fcl r12)
    ((cS (cellsAt r12 0) 0).bind fun s13 =>
    (cS (cellsAt r12 0) 1).bind fun s14 =>
    (idxA 2 (c4) i5).bind fun c15 =>
    (hStore H6 (c15) [Cell.str s13, Cell.str s14]).bind fun h16 =>
    fcm_l0 k m n (c3) (c4) (IntKind.i64.wrap (i5 + 1)) h16)
    none)
    (some ([.one (c4)], H6))
noncomputable def fcm (k m : Nat) (c1 : Cell) : Option Res :=
  (lenC c1).bind fun n2 =>
  if 0 ≤ (n2 : Int) ∧ (n2 : Int) ≤ (n2 : Int) ∧ (n2 : Int) * 32 ≤ bound ∧ (n2 : Int) ≤ bound then
  (fcm_l0 k m m (c1) ((.vs 0 2 0 (n2 : Int).toNat 0)) 0 [Entry.mk 2 (mkRows (n2 : Int).toNat [Cell.str (bs []), Cell.str (bs [])]) 0 false]) else none
noncomputable abbrev fcm_l0_B (k m : Nat) : (Ex → Fr → Option Res) → Fr → Option Res := evC G_fcm fi_fcm (evF G_fcm (k + 1)) m (sub [1, 1, 0, 1, 2, 3] fi_fcm.code) none
noncomputable abbrev fcm_l0_K (k m : Nat) : Ex → Fr → Option Res := blockK 0 (seqK (evC G_fcm fi_fcm (evF G_fcm (k + 1)) m (sub [1, 1, 1] fi_fcm.code) none) (retK G_fcm fi_fcm))
theorem fcm_l0_eq (k m : Nat) : ∀ (n : Nat) (c3 : Cell) (c4 : Cell) (i5 : Int) (H6 : List Entry), loopK (some [0, 3, 4]) (fcm_l0_B k m) (fcm_l0_K k m) n ⟨fT 23 0 [(0, .av (.one (c3))), (3, .av (.one (c4))), (4, .av (.one (Cell.int i5)))], fX 23 0 [], H6⟩ = fcm_l0 (k + 1) m n c3 c4 i5 H6 := by
  intro n
  induction n with
  | zero => intros; rfl
  | succ n ih =>
    intros
    simp only [fcm_l0, ← ih]
    kernel_rfl
theorem fcm_code (k m : Nat) (c1 : Cell) : evC G_fcm fi_fcm (evF G_fcm (k + 1)) m fi_fcm.code none (retK G_fcm fi_fcm) (enter fi_fcm [.one (c1)] []) = fcm (k + 1) m c1 := by
  simp only [fcm, ← fcm_l0_eq k m]
  kernel_rfl
theorem fcm_eq (k : Nat) (c1 : Cell) : evF G_fcm (k + 2) fid_fcm [.one (c1)] [] = fcm (k + 1) (k + 1) c1 :=
  Eq.trans (by kernel_rfl) (fcm_code k (k + 1) c1)
theorem run_fcm_of {c1 : Cell} {r : Res} (k : Nat) (h : fcm (k + 1) (k + 1) c1 = some r) : run_fcm [.one (c1)] [] = some r := lim_of ((fcm_eq k c1).trans h)
noncomputable def pl_fcp : List (Nat × Run) := []
noncomputable def G_fcp : Ctx := ctx tyTab fiTab pl_fcp
noncomputable def run_fcp : Run := lim G_fcp fid_fcp
theorem ok_fcp : FnOk Tryz.prog OkT fid_fcp run_fcp := lim_ok (l := pl_fcp) Tryz_mix tyTab_ok fiTab_ok okT .nil fid_fcp
noncomputable def fcp_l0 (k m : Nat) : Nat → Cell → Cell → Int → List Entry → Option Res
  | 0, _, _, _, _ => none
  | n + 1, c3, c4, i5, H6 =>
    (lenC c3).bind fun n7 =>
    cond (decide (i5 < (n7 : Int)))
    ((idxA 1 (c3) i5).bind fun c8 =>
    (deref H6 (c8)).bind fun p9 =>
    (cS p9.1 p9.2).bind fun s10 =>
    (idxA 1 (c4) i5).bind fun c11 =>
    (hStore H6 (c11) [Cell.str s10]).bind fun h12 =>
    fcp_l0 k m n (c3) (c4) (IntKind.i64.wrap (i5 + 1)) h12)
    (some ([.one (c4)], H6))
noncomputable def fcp (k m : Nat) (c1 : Cell) : Option Res :=
  (lenC c1).bind fun n2 =>
  if 0 ≤ (n2 : Int) ∧ (n2 : Int) ≤ (n2 : Int) ∧ (n2 : Int) * 16 ≤ bound ∧ (n2 : Int) ≤ bound then
  (fcp_l0 k m m (c1) ((.vs 0 1 0 (n2 : Int).toNat 0)) 0 [Entry.mk 1 (mkRows (n2 : Int).toNat [Cell.str (bs [])]) 0 false]) else none
noncomputable abbrev fcp_l0_B (k m : Nat) : (Ex → Fr → Option Res) → Fr → Option Res := evC G_fcp fi_fcp (evF G_fcp (k + 1)) m (sub [1, 1, 0, 1, 2, 3] fi_fcp.code) none
noncomputable abbrev fcp_l0_K (k m : Nat) : Ex → Fr → Option Res := blockK 0 (seqK (evC G_fcp fi_fcp (evF G_fcp (k + 1)) m (sub [1, 1, 1] fi_fcp.code) none) (retK G_fcp fi_fcp))
theorem fcp_l0_eq (k m : Nat) : ∀ (n : Nat) (c3 : Cell) (c4 : Cell) (i5 : Int) (H6 : List Entry), loopK (some [0, 3, 4]) (fcp_l0_B k m) (fcp_l0_K k m) n ⟨fT 22 0 [(0, .av (.one (c3))), (3, .av (.one (c4))), (4, .av (.one (Cell.int i5)))], fX 22 0 [], H6⟩ = fcp_l0 (k + 1) m n c3 c4 i5 H6 := by
  intro n
  induction n with
  | zero => intros; rfl
  | succ n ih =>
    intros
    simp only [fcp_l0, ← ih]
    kernel_rfl
theorem fcp_code (k m : Nat) (c1 : Cell) : evC G_fcp fi_fcp (evF G_fcp (k + 1)) m fi_fcp.code none (retK G_fcp fi_fcp) (enter fi_fcp [.one (c1)] []) = fcp (k + 1) m c1 := by
  simp only [fcp, ← fcp_l0_eq k m]
  kernel_rfl
theorem fcp_eq (k : Nat) (c1 : Cell) : evF G_fcp (k + 2) fid_fcp [.one (c1)] [] = fcp (k + 1) (k + 1) c1 :=
  Eq.trans (by kernel_rfl) (fcp_code k (k + 1) c1)
theorem run_fcp_of {c1 : Cell} {r : Res} (k : Nat) (h : fcp (k + 1) (k + 1) c1 = some r) : run_fcp [.one (c1)] [] = some r := lim_of ((fcp_eq k c1).trans h)
noncomputable def pl_fcq : List (Nat × Run) := [(fid_fcp, run_fcp)]
noncomputable def G_fcq : Ctx := ctx tyTab fiTab pl_fcq
noncomputable def run_fcq : Run := lim G_fcq fid_fcq
theorem ok_fcq : FnOk Tryz.prog OkT fid_fcq run_fcq := lim_ok (l := pl_fcq) Tryz_mix tyTab_ok fiTab_ok okT (.cons ok_fcp .nil) fid_fcq
noncomputable def fcq (k m : Nat) (i1 : Int) (i2 : Int) (i3 : Int) (c4 : Cell) : Option Res :=
  (callL run_fcp [.one (c4)] []).bind fun r5 =>
  cond (shapeOk rk_fcp r5.1)
  ((cC (cellsAt r5.1 0) 0).bind fun c6 =>
  some ([.agg [Cell.int i1, Cell.int i2, Cell.int i3, c6]], r5.2))
  none
theorem fcq_code (k m : Nat) (i1 : Int) (i2 : Int) (i3 : Int) (c4 : Cell) : evC G_fcq fi_fcq (evF G_fcq (k + 1)) m fi_fcq.code none (retK G_fcq fi_fcq) (enter fi_fcq [.agg [Cell.int i1, Cell.int i2, Cell.int i3, c4]] []) = fcq (k + 1) m i1 i2 i3 c4 := by
  kernel_rfl
theorem fcq_eq (k : Nat) (i1 : Int) (i2 : Int) (i3 : Int) (c4 : Cell) : evF G_fcq (k + 2) fid_fcq [.agg [Cell.int i1, Cell.int i2, Cell.int i3, c4]] [] = fcq (k + 1) (k + 1) i1 i2 i3 c4 :=
  Eq.trans (by kernel_rfl) (fcq_code k (k + 1) i1 i2 i3 c4)
theorem run_fcq_of {i1 : Int} {i2 : Int} {i3 : Int} {c4 : Cell} {r : Res} (k : Nat) (h : fcq (k + 1) (k + 1) i1 i2 i3 c4 = some r) : run_fcq [.agg [Cell.int i1, Cell.int i2, Cell.int i3, c4]] [] = some r := lim_of ((fcq_eq k i1 i2 i3 c4).trans h)
noncomputable def pl_fcj : List (Nat × Run) := [(fid_fcm, run_fcm), (fid_fcq, run_fcq)]
noncomputable def G_fcj : Ctx := ctx tyTab fiTab pl_fcj
noncomputable def run_fcj : Run := lim G_fcj fid_fcj
theorem ok_fcj : FnOk Tryz.prog OkT fid_fcj run_fcj := lim_ok (l := pl_fcj) Tryz_mix tyTab_ok fiTab_ok okT (.cons ok_fcm (.cons ok_fcq .nil)) fid_fcj
noncomputable def fcj (k m : Nat) (s1 : ByteArray) (i2 : Int) (i3 : Int) (i4 : Int) (c5 : Cell) (c6 : Cell) : Option Res :=
  (callL run_fcq [.agg [Cell.int i2, Cell.int i3, Cell.int i4, c5]] []).bind fun r7 =>
  cond (shapeOk rk_fcq r7.1)
  ((cI .i64 (cellsAt r7.1 0) 0).bind fun i8 =>
  (cI .i64 (cellsAt r7.1 0) 1).bind fun i9 =>
  (cI .i64 (cellsAt r7.1 0) 2).bind fun i10 =>
  (cC (cellsAt r7.1 0) 3).bind fun c11 =>
  (callL run_fcm [.one (c6)] r7.2).bind fun r12 =>
  cond (shapeOk rk_fcm r12.1)
  ((cC (cellsAt r12.1 0) 0).bind fun c13 =>
  some ([.agg [Cell.str s1, Cell.int i8, Cell.int i9, Cell.int i10, c11, c13]], r12.2))
  none)
  none
theorem fcj_code (k m : Nat) (s1 : ByteArray) (i2 : Int) (i3 : Int) (i4 : Int) (c5 : Cell) (c6 : Cell) : evC G_fcj fi_fcj (evF G_fcj (k + 1)) m fi_fcj.code none (retK G_fcj fi_fcj) (enter fi_fcj [.agg [Cell.str s1, Cell.int i2, Cell.int i3, Cell.int i4, c5, c6]] []) = fcj (k + 1) m s1 i2 i3 i4 c5 c6 := by
  kernel_rfl
theorem fcj_eq (k : Nat) (s1 : ByteArray) (i2 : Int) (i3 : Int) (i4 : Int) (c5 : Cell) (c6 : Cell) : evF G_fcj (k + 2) fid_fcj [.agg [Cell.str s1, Cell.int i2, Cell.int i3, Cell.int i4, c5, c6]] [] = fcj (k + 1) (k + 1) s1 i2 i3 i4 c5 c6 :=
  Eq.trans (by kernel_rfl) (fcj_code k (k + 1) s1 i2 i3 i4 c5 c6)
theorem run_fcj_of {s1 : ByteArray} {i2 : Int} {i3 : Int} {i4 : Int} {c5 : Cell} {c6 : Cell} {r : Res} (k : Nat) (h : fcj (k + 1) (k + 1) s1 i2 i3 i4 c5 c6 = some r) : run_fcj [.agg [Cell.str s1, Cell.int i2, Cell.int i3, Cell.int i4, c5, c6]] [] = some r := lim_of ((fcj_eq k s1 i2 i3 i4 c5 c6).trans h)
noncomputable def pl_fck : List (Nat × Run) := [(fid_fcj, run_fcj)]
noncomputable def G_fck : Ctx := ctx tyTab fiTab pl_fck
noncomputable def run_fck : Run := lim G_fck fid_fck
theorem ok_fck : FnOk Tryz.prog OkT fid_fck run_fck := lim_ok (l := pl_fck) Tryz_mix tyTab_ok fiTab_ok okT (.cons ok_fcj .nil) fid_fck
noncomputable def fck_l0 (k m : Nat) : Nat → Cell → Cell → Int → List Entry → Option Res
  | 0, _, _, _, _ => none
  | n + 1, c3, c4, i5, H6 =>
    (lenC c3).bind fun n7 =>
    cond (decide (i5 < (n7 : Int)))
    ((idxA 6 (c3) i5).bind fun c8 =>
    (deref H6 (c8)).bind fun p9 =>
    (cS p9.1 p9.2).bind fun s10 =>
    (cI .i64 p9.1 (p9.2 + 1)).bind fun i11 =>
    (cI .i64 p9.1 ((p9.2 + 1) + 1)).bind fun i12 =>
    (cI .i64 p9.1 (((p9.2 + 1) + 1) + 1)).bind fun i13 =>
    (cC p9.1 ((((p9.2 + 1) + 1) + 1) + 1)).bind fun c14 =>
    (cC p9.1 (((((p9.2 + 1) + 1) + 1) + 1) + 1)).bind fun c15 =>
    (callL run_fcj [.agg [Cell.str s10, Cell.int i11, Cell.int i12, Cell.int i13, c14, c15]] H6).bind fun r16 =>
    cond (shapeOk rk_fcj r16.1)
    ((cS (cellsAt r16.1 0) 0).bind fun s17 =>
    (cI .i64 (cellsAt r16.1 0) 1).bind fun i18 =>
    (cI .i64 (cellsAt r16.1 0) 2).bind fun i19 =>
    (cI .i64 (cellsAt r16.1 0) 3).bind fun i20 =>
    (cC (cellsAt r16.1 0) 4).bind fun c21 =>
    (cC (cellsAt r16.1 0) 5).bind fun c22 =>
    (idxA 6 (c4) i5).bind fun c23 =>
    (hStore r16.2 (c23) [Cell.str s17, Cell.int i18, Cell.int i19, Cell.int i20, c21, c22]).bind fun h24 =>
    fck_l0 k m n (c3) (c4) (IntKind.i64.wrap (i5 + 1)) h24)
    none)
    (some ([.one (c4)], H6))
noncomputable def fck (k m : Nat) (c1 : Cell) : Option Res :=
  (lenC c1).bind fun n2 =>
  if 0 ≤ (n2 : Int) ∧ (n2 : Int) ≤ (n2 : Int) ∧ (n2 : Int) * 88 ≤ bound ∧ (n2 : Int) ≤ bound then
  (fck_l0 k m m (c1) ((.vs 0 6 0 (n2 : Int).toNat 0)) 0 [Entry.mk 6 (mkRows (n2 : Int).toNat [Cell.str (bs []), Cell.int 0, Cell.int 0, Cell.int 0, .lst true 1 [], .lst true 2 []]) 0 false]) else none
noncomputable abbrev fck_l0_B (k m : Nat) : (Ex → Fr → Option Res) → Fr → Option Res := evC G_fck fi_fck (evF G_fck (k + 1)) m (sub [1, 1, 0, 1, 2, 3] fi_fck.code) none
noncomputable abbrev fck_l0_K (k m : Nat) : Ex → Fr → Option Res := blockK 0 (seqK (evC G_fck fi_fck (evF G_fck (k + 1)) m (sub [1, 1, 1] fi_fck.code) none) (retK G_fck fi_fck))
theorem fck_l0_eq (k m : Nat) : ∀ (n : Nat) (c3 : Cell) (c4 : Cell) (i5 : Int) (H6 : List Entry), loopK (some [0, 3, 4]) (fck_l0_B k m) (fck_l0_K k m) n ⟨fT 23 0 [(0, .av (.one (c3))), (3, .av (.one (c4))), (4, .av (.one (Cell.int i5)))], fX 23 0 [], H6⟩ = fck_l0 (k + 1) m n c3 c4 i5 H6 := by
  intro n
  induction n with
  | zero => intros; rfl
  | succ n ih =>
    intros
    simp only [fck_l0, ← ih]
    kernel_rfl
theorem fck_code (k m : Nat) (c1 : Cell) : evC G_fck fi_fck (evF G_fck (k + 1)) m fi_fck.code none (retK G_fck fi_fck) (enter fi_fck [.one (c1)] []) = fck (k + 1) m c1 := by
  simp only [fck, ← fck_l0_eq k m]
  kernel_rfl
theorem fck_eq (k : Nat) (c1 : Cell) : evF G_fck (k + 2) fid_fck [.one (c1)] [] = fck (k + 1) (k + 1) c1 :=
  Eq.trans (by kernel_rfl) (fck_code k (k + 1) c1)
theorem run_fck_of {c1 : Cell} {r : Res} (k : Nat) (h : fck (k + 1) (k + 1) c1 = some r) : run_fck [.one (c1)] [] = some r := lim_of ((fck_eq k c1).trans h)
noncomputable def pl_fcn : List (Nat × Run) := [(fid_fcq, run_fcq)]
noncomputable def G_fcn : Ctx := ctx tyTab fiTab pl_fcn
noncomputable def run_fcn : Run := lim G_fcn fid_fcn
theorem ok_fcn : FnOk Tryz.prog OkT fid_fcn run_fcn := lim_ok (l := pl_fcn) Tryz_mix tyTab_ok fiTab_ok okT (.cons ok_fcq .nil) fid_fcn
noncomputable def fcn (k m : Nat) (s1 : ByteArray) (i2 : Int) (i3 : Int) (i4 : Int) (c5 : Cell) : Option Res :=
  (callL run_fcq [.agg [Cell.int i2, Cell.int i3, Cell.int i4, c5]] []).bind fun r6 =>
  cond (shapeOk rk_fcq r6.1)
  ((cI .i64 (cellsAt r6.1 0) 0).bind fun i7 =>
  (cI .i64 (cellsAt r6.1 0) 1).bind fun i8 =>
  (cI .i64 (cellsAt r6.1 0) 2).bind fun i9 =>
  (cC (cellsAt r6.1 0) 3).bind fun c10 =>
  some ([.agg [Cell.str s1, Cell.int i7, Cell.int i8, Cell.int i9, c10]], r6.2))
  none
theorem fcn_code (k m : Nat) (s1 : ByteArray) (i2 : Int) (i3 : Int) (i4 : Int) (c5 : Cell) : evC G_fcn fi_fcn (evF G_fcn (k + 1)) m fi_fcn.code none (retK G_fcn fi_fcn) (enter fi_fcn [.agg [Cell.str s1, Cell.int i2, Cell.int i3, Cell.int i4, c5]] []) = fcn (k + 1) m s1 i2 i3 i4 c5 := by
  kernel_rfl
theorem fcn_eq (k : Nat) (s1 : ByteArray) (i2 : Int) (i3 : Int) (i4 : Int) (c5 : Cell) : evF G_fcn (k + 2) fid_fcn [.agg [Cell.str s1, Cell.int i2, Cell.int i3, Cell.int i4, c5]] [] = fcn (k + 1) (k + 1) s1 i2 i3 i4 c5 :=
  Eq.trans (by kernel_rfl) (fcn_code k (k + 1) s1 i2 i3 i4 c5)
theorem run_fcn_of {s1 : ByteArray} {i2 : Int} {i3 : Int} {i4 : Int} {c5 : Cell} {r : Res} (k : Nat) (h : fcn (k + 1) (k + 1) s1 i2 i3 i4 c5 = some r) : run_fcn [.agg [Cell.str s1, Cell.int i2, Cell.int i3, Cell.int i4, c5]] [] = some r := lim_of ((fcn_eq k s1 i2 i3 i4 c5).trans h)
noncomputable def pl_fco : List (Nat × Run) := [(fid_fcn, run_fcn)]
noncomputable def G_fco : Ctx := ctx tyTab fiTab pl_fco
noncomputable def run_fco : Run := lim G_fco fid_fco
theorem ok_fco : FnOk Tryz.prog OkT fid_fco run_fco := lim_ok (l := pl_fco) Tryz_mix tyTab_ok fiTab_ok okT (.cons ok_fcn .nil) fid_fco
noncomputable def fco_l0 (k m : Nat) : Nat → Cell → Cell → Int → List Entry → Option Res
  | 0, _, _, _, _ => none
  | n + 1, c3, c4, i5, H6 =>
    (lenC c3).bind fun n7 =>
    cond (decide (i5 < (n7 : Int)))
    ((idxA 5 (c3) i5).bind fun c8 =>
    (deref H6 (c8)).bind fun p9 =>
    (cS p9.1 p9.2).bind fun s10 =>
    (cI .i64 p9.1 (p9.2 + 1)).bind fun i11 =>
    (cI .i64 p9.1 ((p9.2 + 1) + 1)).bind fun i12 =>
    (cI .i64 p9.1 (((p9.2 + 1) + 1) + 1)).bind fun i13 =>
    (cC p9.1 ((((p9.2 + 1) + 1) + 1) + 1)).bind fun c14 =>
    (callL run_fcn [.agg [Cell.str s10, Cell.int i11, Cell.int i12, Cell.int i13, c14]] H6).bind fun r15 =>
    cond (shapeOk rk_fcn r15.1)
    ((cS (cellsAt r15.1 0) 0).bind fun s16 =>
    (cI .i64 (cellsAt r15.1 0) 1).bind fun i17 =>
    (cI .i64 (cellsAt r15.1 0) 2).bind fun i18 =>
    (cI .i64 (cellsAt r15.1 0) 3).bind fun i19 =>
    (cC (cellsAt r15.1 0) 4).bind fun c20 =>
    (idxA 5 (c4) i5).bind fun c21 =>
    (hStore r15.2 (c21) [Cell.str s16, Cell.int i17, Cell.int i18, Cell.int i19, c20]).bind fun h22 =>
    fco_l0 k m n (c3) (c4) (IntKind.i64.wrap (i5 + 1)) h22)
    none)
    (some ([.one (c4)], H6))
noncomputable def fco (k m : Nat) (c1 : Cell) : Option Res :=
  (lenC c1).bind fun n2 =>
  if 0 ≤ (n2 : Int) ∧ (n2 : Int) ≤ (n2 : Int) ∧ (n2 : Int) * 64 ≤ bound ∧ (n2 : Int) ≤ bound then
  (fco_l0 k m m (c1) ((.vs 0 5 0 (n2 : Int).toNat 0)) 0 [Entry.mk 5 (mkRows (n2 : Int).toNat [Cell.str (bs []), Cell.int 0, Cell.int 0, Cell.int 0, .lst true 1 []]) 0 false]) else none
noncomputable abbrev fco_l0_B (k m : Nat) : (Ex → Fr → Option Res) → Fr → Option Res := evC G_fco fi_fco (evF G_fco (k + 1)) m (sub [1, 1, 0, 1, 2, 3] fi_fco.code) none
noncomputable abbrev fco_l0_K (k m : Nat) : Ex → Fr → Option Res := blockK 0 (seqK (evC G_fco fi_fco (evF G_fco (k + 1)) m (sub [1, 1, 1] fi_fco.code) none) (retK G_fco fi_fco))
theorem fco_l0_eq (k m : Nat) : ∀ (n : Nat) (c3 : Cell) (c4 : Cell) (i5 : Int) (H6 : List Entry), loopK (some [0, 3, 4]) (fco_l0_B k m) (fco_l0_K k m) n ⟨fT 23 0 [(0, .av (.one (c3))), (3, .av (.one (c4))), (4, .av (.one (Cell.int i5)))], fX 23 0 [], H6⟩ = fco_l0 (k + 1) m n c3 c4 i5 H6 := by
  intro n
  induction n with
  | zero => intros; rfl
  | succ n ih =>
    intros
    simp only [fco_l0, ← ih]
    kernel_rfl
theorem fco_code (k m : Nat) (c1 : Cell) : evC G_fco fi_fco (evF G_fco (k + 1)) m fi_fco.code none (retK G_fco fi_fco) (enter fi_fco [.one (c1)] []) = fco (k + 1) m c1 := by
  simp only [fco, ← fco_l0_eq k m]
  kernel_rfl
theorem fco_eq (k : Nat) (c1 : Cell) : evF G_fco (k + 2) fid_fco [.one (c1)] [] = fco (k + 1) (k + 1) c1 :=
  Eq.trans (by kernel_rfl) (fco_code k (k + 1) c1)
theorem run_fco_of {c1 : Cell} {r : Res} (k : Nat) (h : fco (k + 1) (k + 1) c1 = some r) : run_fco [.one (c1)] [] = some r := lim_of ((fco_eq k c1).trans h)
noncomputable def pl_fcs : List (Nat × Run) := []
noncomputable def G_fcs : Ctx := ctx tyTab fiTab pl_fcs
noncomputable def run_fcs : Run := lim G_fcs fid_fcs
theorem ok_fcs : FnOk Tryz.prog OkT fid_fcs run_fcs := lim_ok (l := pl_fcs) Tryz_mix tyTab_ok fiTab_ok okT .nil fid_fcs
noncomputable def fcs_l0 (k m : Nat) : Nat → Cell → Cell → Int → Int → Option Res
  | 0, _, _, _, _ => none
  | n + 1, c6, c7, i8, i9 =>
    cond (decide (i9 < i8))
    ((idxA 1 (c6) i9).bind fun c10 =>
    (deref [] (c10)).bind fun p11 =>
    (cS p11.1 p11.2).bind fun s12 =>
    (idxA 1 (c7) i9).bind fun c13 =>
    (deref [] (c13)).bind fun p14 =>
    (cS p14.1 p14.2).bind fun s15 =>
    cond (!(s12.toList == s15.toList))
    (some ([.one (Cell.bool false)], []))
    (fcs_l0 k m n (c6) (c7) i8 (IntKind.i64.wrap (i9 + 1))))
    (some ([.one (Cell.bool true)], []))
noncomputable def fcs (k m : Nat) (c1 : Cell) (c2 : Cell) : Option Res :=
  (lenC c1).bind fun n3 =>
  (lenC c2).bind fun n4 =>
  cond ((n3 : Int) != (n4 : Int))
  (some ([.one (Cell.bool false)], []))
  ((lenC c1).bind fun n5 =>
  fcs_l0 k m m (c1) (c2) (n5 : Int) 0)
noncomputable abbrev fcs_l0_B (k m : Nat) : (Ex → Fr → Option Res) → Fr → Option Res := evC G_fcs fi_fcs (evF G_fcs (k + 1)) m (sub [1, 1, 0, 1, 2, 3] fi_fcs.code) none
noncomputable abbrev fcs_l0_K (k m : Nat) : Ex → Fr → Option Res := blockK 0 (seqK (evC G_fcs fi_fcs (evF G_fcs (k + 1)) m (sub [1, 1, 1] fi_fcs.code) none) (retK G_fcs fi_fcs))
theorem fcs_l0_eq (k m : Nat) : ∀ (n : Nat) (c6 : Cell) (c7 : Cell) (i8 : Int) (i9 : Int), loopK (some [0, 1, 12, 13]) (fcs_l0_B k m) (fcs_l0_K k m) n ⟨fT 26 0 [(0, .av (.one (c6))), (1, .av (.one (c7))), (12, .av (.one (Cell.int i8))), (13, .av (.one (Cell.int i9)))], fX 26 0 [], []⟩ = fcs_l0 (k + 1) m n c6 c7 i8 i9 := by
  intro n
  induction n with
  | zero => intros; rfl
  | succ n ih =>
    intros
    simp only [fcs_l0, ← ih]
    kernel_rfl
theorem fcs_code (k m : Nat) (c1 : Cell) (c2 : Cell) : evC G_fcs fi_fcs (evF G_fcs (k + 1)) m fi_fcs.code none (retK G_fcs fi_fcs) (enter fi_fcs [.one (c1), .one (c2)] []) = fcs (k + 1) m c1 c2 := by
  simp only [fcs, ← fcs_l0_eq k m]
  kernel_rfl
theorem fcs_eq (k : Nat) (c1 : Cell) (c2 : Cell) : evF G_fcs (k + 2) fid_fcs [.one (c1), .one (c2)] [] = fcs (k + 1) (k + 1) c1 c2 :=
  Eq.trans (by kernel_rfl) (fcs_code k (k + 1) c1 c2)
theorem run_fcs_of {c1 : Cell} {c2 : Cell} {r : Res} (k : Nat) (h : fcs (k + 1) (k + 1) c1 c2 = some r) : run_fcs [.one (c1), .one (c2)] [] = some r := lim_of ((fcs_eq k c1 c2).trans h)
noncomputable def pl_fam : List (Nat × Run) := [(fid_fcs, run_fcs)]
noncomputable def G_fam : Ctx := ctx tyTab fiTab pl_fam
noncomputable def run_fam : Run := lim G_fam fid_fam
theorem ok_fam : FnOk Tryz.prog OkT fid_fam run_fam := lim_ok (l := pl_fam) Tryz_mix tyTab_ok fiTab_ok okT (.cons ok_fcs .nil) fid_fam
noncomputable def fam (k m : Nat) (i1 : Int) (i2 : Int) (i3 : Int) (c4 : Cell) (i5 : Int) (i6 : Int) (i7 : Int) (c8 : Cell) : Option Res :=
  cond (i1 == i5)
  (cond (i2 == i6)
  (cond (i3 == i7)
  ((callS run_fcs [.one (c4), .one (c8)] []).bind fun r9 =>
  cond (shapeOk rk_fcs r9)
  ((cB (cellsAt r9 0) 0).bind fun b10 =>
  some ([.one (Cell.bool b10)], []))
  none)
  (some ([.one (Cell.bool false)], [])))
  (some ([.one (Cell.bool false)], [])))
  (some ([.one (Cell.bool false)], []))
theorem fam_code (k m : Nat) (i1 : Int) (i2 : Int) (i3 : Int) (c4 : Cell) (i5 : Int) (i6 : Int) (i7 : Int) (c8 : Cell) : evC G_fam fi_fam (evF G_fam (k + 1)) m fi_fam.code none (retK G_fam fi_fam) (enter fi_fam [.agg [Cell.int i1, Cell.int i2, Cell.int i3, c4], .agg [Cell.int i5, Cell.int i6, Cell.int i7, c8]] []) = fam (k + 1) m i1 i2 i3 c4 i5 i6 i7 c8 := by
  kernel_rfl
theorem fam_eq (k : Nat) (i1 : Int) (i2 : Int) (i3 : Int) (c4 : Cell) (i5 : Int) (i6 : Int) (i7 : Int) (c8 : Cell) : evF G_fam (k + 2) fid_fam [.agg [Cell.int i1, Cell.int i2, Cell.int i3, c4], .agg [Cell.int i5, Cell.int i6, Cell.int i7, c8]] [] = fam (k + 1) (k + 1) i1 i2 i3 c4 i5 i6 i7 c8 :=
  Eq.trans (by kernel_rfl) (fam_code k (k + 1) i1 i2 i3 c4 i5 i6 i7 c8)
theorem run_fam_of {i1 : Int} {i2 : Int} {i3 : Int} {c4 : Cell} {i5 : Int} {i6 : Int} {i7 : Int} {c8 : Cell} {r : Res} (k : Nat) (h : fam (k + 1) (k + 1) i1 i2 i3 c4 i5 i6 i7 c8 = some r) : run_fam [.agg [Cell.int i1, Cell.int i2, Cell.int i3, c4], .agg [Cell.int i5, Cell.int i6, Cell.int i7, c8]] [] = some r := lim_of ((fam_eq k i1 i2 i3 c4 i5 i6 i7 c8).trans h)
noncomputable def pl_faw : List (Nat × Run) := [(fid_fam, run_fam)]
noncomputable def G_faw : Ctx := ctx tyTab fiTab pl_faw
noncomputable def run_faw : Run := lim G_faw fid_faw
theorem ok_faw : FnOk Tryz.prog OkT fid_faw run_faw := lim_ok (l := pl_faw) Tryz_mix tyTab_ok fiTab_ok okT (.cons ok_fam .nil) fid_faw
noncomputable def faw (k m : Nat) (s1 : ByteArray) (i2 : Int) (i3 : Int) (i4 : Int) (c5 : Cell) (c6 : Cell) (c7 : Cell) (c8 : Cell) (H : List Entry) : Option Res :=
  (deref H (c7)).bind fun p9 =>
  (cS p9.1 p9.2).bind fun s10 =>
  cond (s1.toList == s10.toList)
  ((deref H (c8)).bind fun p11 =>
  (cI .i64 p11.1 p11.2).bind fun i12 =>
  (cI .i64 p11.1 (p11.2 + 1)).bind fun i13 =>
  (cI .i64 p11.1 ((p11.2 + 1) + 1)).bind fun i14 =>
  (cC p11.1 (((p11.2 + 1) + 1) + 1)).bind fun c15 =>
  (callS run_fam [.agg [Cell.int i2, Cell.int i3, Cell.int i4, c5], .agg [Cell.int i12, Cell.int i13, Cell.int i14, c15]] H).bind fun r16 =>
  cond (shapeOk rk_fam r16)
  ((cB (cellsAt r16 0) 0).bind fun b17 =>
  some ([.one (Cell.bool b17)], H))
  none)
  (some ([.one (Cell.bool false)], H))
theorem faw_code (k m : Nat) (s1 : ByteArray) (i2 : Int) (i3 : Int) (i4 : Int) (c5 : Cell) (c6 : Cell) (c7 : Cell) (c8 : Cell) (H : List Entry) : evC G_faw fi_faw (evF G_faw (k + 1)) m fi_faw.code none (retK G_faw fi_faw) (enter fi_faw [.agg [Cell.str s1, Cell.int i2, Cell.int i3, Cell.int i4, c5, c6], .one (c7), .one (c8)] H) = faw (k + 1) m s1 i2 i3 i4 c5 c6 c7 c8 H := by
  kernel_rfl
theorem faw_eq (k : Nat) (s1 : ByteArray) (i2 : Int) (i3 : Int) (i4 : Int) (c5 : Cell) (c6 : Cell) (c7 : Cell) (c8 : Cell) (H : List Entry) : evF G_faw (k + 2) fid_faw [.agg [Cell.str s1, Cell.int i2, Cell.int i3, Cell.int i4, c5, c6], .one (c7), .one (c8)] H = faw (k + 1) (k + 1) s1 i2 i3 i4 c5 c6 c7 c8 H :=
  Eq.trans (by kernel_rfl) (faw_code k (k + 1) s1 i2 i3 i4 c5 c6 c7 c8 H)
theorem run_faw_of {s1 : ByteArray} {i2 : Int} {i3 : Int} {i4 : Int} {c5 : Cell} {c6 : Cell} {c7 : Cell} {c8 : Cell} {H : List Entry} {r : Res} (k : Nat) (h : faw (k + 1) (k + 1) s1 i2 i3 i4 c5 c6 c7 c8 H = some r) : run_faw [.agg [Cell.str s1, Cell.int i2, Cell.int i3, Cell.int i4, c5, c6], .one (c7), .one (c8)] H = some r := lim_of ((faw_eq k s1 i2 i3 i4 c5 c6 c7 c8 H).trans h)
noncomputable def pl_fct : List (Nat × Run) := [(fid_faw, run_faw)]
noncomputable def G_fct : Ctx := ctx tyTab fiTab pl_fct
noncomputable def run_fct : Run := lim G_fct fid_fct
theorem ok_fct : FnOk Tryz.prog OkT fid_fct run_fct := lim_ok (l := pl_fct) Tryz_mix tyTab_ok fiTab_ok okT (.cons ok_faw .nil) fid_fct
noncomputable def slices_IndexFunc_Entry_faw_l0 (k m : Nat) : Nat → Cell → Cell → Cell → Int → Int → List Entry → Option Res
  | 0, _, _, _, _, _, _ => none
  | n + 1, c3, c4, c5, i6, i7, H8 =>
    cond (decide (i7 < i6))
    ((idxA 6 (c3) i7).bind fun c9 =>
    (deref H8 (c9)).bind fun p10 =>
    (cS p10.1 p10.2).bind fun s11 =>
    (cI .i64 p10.1 (p10.2 + 1)).bind fun i12 =>
    (cI .i64 p10.1 ((p10.2 + 1) + 1)).bind fun i13 =>
    (cI .i64 p10.1 (((p10.2 + 1) + 1) + 1)).bind fun i14 =>
    (cC p10.1 ((((p10.2 + 1) + 1) + 1) + 1)).bind fun c15 =>
    (cC p10.1 (((((p10.2 + 1) + 1) + 1) + 1) + 1)).bind fun c16 =>
    (run_faw [.agg [Cell.str s11, Cell.int i12, Cell.int i13, Cell.int i14, c15, c16], .one (c4), .one (c5)] H8).bind fun r17 =>
    cond (shapeOk rk_faw r17.1)
    ((cB (cellsAt r17.1 0) 0).bind fun b18 =>
    cond b18
    (some ([.one (Cell.int i7)], r17.2))
    (slices_IndexFunc_Entry_faw_l0 k m n (c3) (c4) (c5) i6 (IntKind.i64.wrap (i7 + 1)) r17.2))
    none)
    (some ([.one (Cell.int (-1))], H8))
noncomputable def slices_IndexFunc_Entry_faw (k m : Nat) (c1 : Cell) (q2 : Cell) (q3 : Cell) (H : List Entry) : Option Res :=
  (lenC c1).bind fun n2 =>
  slices_IndexFunc_Entry_faw_l0 k m m (c1) (q2) (q3) (n2 : Int) 0 H
noncomputable abbrev slices_IndexFunc_Entry_faw_l0_B (k m : Nat) : (Ex → Fr → Option Res) → Fr → Option Res := evC G_fct fi_fct (evF G_fct (k + 1)) m (sub [1, 0, 1, 2, 3] fi_fct.code) none
noncomputable abbrev slices_IndexFunc_Entry_faw_l0_K (k m : Nat) : Ex → Fr → Option Res := blockK 0 (seqK (evC G_fct fi_fct (evF G_fct (k + 1)) m (sub [1, 1] fi_fct.code) none) (retK G_fct fi_fct))
theorem slices_IndexFunc_Entry_faw_l0_eq (k m : Nat) : ∀ (n : Nat) (c3 : Cell) (c4 : Cell) (c5 : Cell) (i6 : Int) (i7 : Int) (H8 : List Entry), loopK (some [0, 1, 7, 8]) (slices_IndexFunc_Entry_faw_l0_B k m) (slices_IndexFunc_Entry_faw_l0_K k m) n ⟨fT 19 0 [(0, .av (.one (c3))), (1, .av (.one (.fn fid_faw [] [c4, c5]))), (7, .av (.one (Cell.int i6))), (8, .av (.one (Cell.int i7)))], fX 19 0 [], H8⟩ = slices_IndexFunc_Entry_faw_l0 (k + 1) m n c3 c4 c5 i6 i7 H8 := by
  intro n
  induction n with
  | zero => intros; rfl
  | succ n ih =>
    intros
    simp only [slices_IndexFunc_Entry_faw_l0, ← ih]
    kernel_rfl
theorem slices_IndexFunc_Entry_faw_code (k m : Nat) (c1 : Cell) (q2 : Cell) (q3 : Cell) (H : List Entry) : evC G_fct fi_fct (evF G_fct (k + 1)) m fi_fct.code none (retK G_fct fi_fct) (enter fi_fct [.one (c1), .one (.fn fid_faw [] [q2, q3])] H) = slices_IndexFunc_Entry_faw (k + 1) m c1 q2 q3 H := by
  simp only [slices_IndexFunc_Entry_faw, ← slices_IndexFunc_Entry_faw_l0_eq k m]
  kernel_rfl
theorem slices_IndexFunc_Entry_faw_eq (k : Nat) (c1 : Cell) (q2 : Cell) (q3 : Cell) (H : List Entry) : evF G_fct (k + 2) fid_fct [.one (c1), .one (.fn fid_faw [] [q2, q3])] H = slices_IndexFunc_Entry_faw (k + 1) (k + 1) c1 q2 q3 H :=
  Eq.trans (by kernel_rfl) (slices_IndexFunc_Entry_faw_code k (k + 1) c1 q2 q3 H)
theorem run_slices_IndexFunc_Entry_faw_of {c1 : Cell} {q2 : Cell} {q3 : Cell} {H : List Entry} {r : Res} (k : Nat) (h : slices_IndexFunc_Entry_faw (k + 1) (k + 1) c1 q2 q3 H = some r) : run_fct [.one (c1), .one (.fn fid_faw [] [q2, q3])] H = some r := lim_of ((slices_IndexFunc_Entry_faw_eq k c1 q2 q3 H).trans h)
noncomputable def pl_fav : List (Nat × Run) := [(fid_fct, run_fct), (fid_faw, run_faw)]
noncomputable def G_fav : Ctx := ctx tyTab fiTab pl_fav
noncomputable def run_fav : Run := lim G_fav fid_fav
theorem ok_fav : FnOk Tryz.prog OkT fid_fav run_fav := lim_ok (l := pl_fav) Tryz_mix tyTab_ok fiTab_ok okT (.cons ok_fct (.cons ok_faw .nil)) fid_fav
noncomputable def fav (k m : Nat) (c1 : Cell) (s2 : ByteArray) (i3 : Int) (i4 : Int) (i5 : Int) (c6 : Cell) : Option Res :=
  (run_fct [.one (c1), .one (.fn fid_faw [] [.ptr 0 1 0 0 0, .ptr 1 4 0 0 0])] [Entry.mk 1 [[Cell.str s2]] 0 false, Entry.mk 4 [[Cell.int i3, Cell.int i4, Cell.int i5, c6]] 0 false]).bind fun r7 =>
  cond (shapeOk rk_fct r7.1)
  ((cI .i64 (cellsAt r7.1 0) 0).bind fun i8 =>
  some ([.one (Cell.int i8)], r7.2))
  none
theorem fav_code (k m : Nat) (c1 : Cell) (s2 : ByteArray) (i3 : Int) (i4 : Int) (i5 : Int) (c6 : Cell) : evC G_fav fi_fav (evF G_fav (k + 1)) m fi_fav.code none (retK G_fav fi_fav) (enter fi_fav [.one (c1), .one (Cell.str s2), .agg [Cell.int i3, Cell.int i4, Cell.int i5, c6]] []) = fav (k + 1) m c1 s2 i3 i4 i5 c6 := by
  kernel_rfl
theorem fav_eq (k : Nat) (c1 : Cell) (s2 : ByteArray) (i3 : Int) (i4 : Int) (i5 : Int) (c6 : Cell) : evF G_fav (k + 2) fid_fav [.one (c1), .one (Cell.str s2), .agg [Cell.int i3, Cell.int i4, Cell.int i5, c6]] [] = fav (k + 1) (k + 1) c1 s2 i3 i4 i5 c6 :=
  Eq.trans (by kernel_rfl) (fav_code k (k + 1) c1 s2 i3 i4 i5 c6)
theorem run_fav_of {c1 : Cell} {s2 : ByteArray} {i3 : Int} {i4 : Int} {i5 : Int} {c6 : Cell} {r : Res} (k : Nat) (h : fav (k + 1) (k + 1) c1 s2 i3 i4 i5 c6 = some r) : run_fav [.one (c1), .one (Cell.str s2), .agg [Cell.int i3, Cell.int i4, Cell.int i5, c6]] [] = some r := lim_of ((fav_eq k c1 s2 i3 i4 i5 c6).trans h)
noncomputable def pl_fbg : List (Nat × Run) := []
noncomputable def G_fbg : Ctx := ctx tyTab fiTab pl_fbg
noncomputable def run_fbg : Run := lim G_fbg fid_fbg
theorem ok_fbg : FnOk Tryz.prog OkT fid_fbg run_fbg := lim_ok (l := pl_fbg) Tryz_mix tyTab_ok fiTab_ok okT .nil fid_fbg
noncomputable def fbg (k m : Nat) (s1 : ByteArray) (i2 : Int) (i3 : Int) (i4 : Int) (c5 : Cell) (c6 : Cell) (H : List Entry) : Option Res :=
  (deref H (c6)).bind fun p7 =>
  (cS p7.1 p7.2).bind fun s8 =>
  some ([.one (Cell.bool (s1.toList == s8.toList))], H)
theorem fbg_code (k m : Nat) (s1 : ByteArray) (i2 : Int) (i3 : Int) (i4 : Int) (c5 : Cell) (c6 : Cell) (H : List Entry) : evC G_fbg fi_fbg (evF G_fbg (k + 1)) m fi_fbg.code none (retK G_fbg fi_fbg) (enter fi_fbg [.agg [Cell.str s1, Cell.int i2, Cell.int i3, Cell.int i4, c5], .one (c6)] H) = fbg (k + 1) m s1 i2 i3 i4 c5 c6 H := by
  kernel_rfl
theorem fbg_eq (k : Nat) (s1 : ByteArray) (i2 : Int) (i3 : Int) (i4 : Int) (c5 : Cell) (c6 : Cell) (H : List Entry) : evF G_fbg (k + 2) fid_fbg [.agg [Cell.str s1, Cell.int i2, Cell.int i3, Cell.int i4, c5], .one (c6)] H = fbg (k + 1) (k + 1) s1 i2 i3 i4 c5 c6 H :=
  Eq.trans (by kernel_rfl) (fbg_code k (k + 1) s1 i2 i3 i4 c5 c6 H)
theorem run_fbg_of {s1 : ByteArray} {i2 : Int} {i3 : Int} {i4 : Int} {c5 : Cell} {c6 : Cell} {H : List Entry} {r : Res} (k : Nat) (h : fbg (k + 1) (k + 1) s1 i2 i3 i4 c5 c6 H = some r) : run_fbg [.agg [Cell.str s1, Cell.int i2, Cell.int i3, Cell.int i4, c5], .one (c6)] H = some r := lim_of ((fbg_eq k s1 i2 i3 i4 c5 c6 H).trans h)
noncomputable def pl_fcu : List (Nat × Run) := [(fid_fbg, run_fbg)]
noncomputable def G_fcu : Ctx := ctx tyTab fiTab pl_fcu
noncomputable def run_fcu : Run := lim G_fcu fid_fcu
theorem ok_fcu : FnOk Tryz.prog OkT fid_fcu run_fcu := lim_ok (l := pl_fcu) Tryz_mix tyTab_ok fiTab_ok okT (.cons ok_fbg .nil) fid_fcu
noncomputable def slices_IndexFunc_Pick_fbg_l0 (k m : Nat) : Nat → Cell → Cell → Int → Int → List Entry → Option Res
  | 0, _, _, _, _, _ => none
  | n + 1, c3, c4, i5, i6, H7 =>
    cond (decide (i6 < i5))
    ((idxA 5 (c3) i6).bind fun c8 =>
    (deref H7 (c8)).bind fun p9 =>
    (cS p9.1 p9.2).bind fun s10 =>
    (cI .i64 p9.1 (p9.2 + 1)).bind fun i11 =>
    (cI .i64 p9.1 ((p9.2 + 1) + 1)).bind fun i12 =>
    (cI .i64 p9.1 (((p9.2 + 1) + 1) + 1)).bind fun i13 =>
    (cC p9.1 ((((p9.2 + 1) + 1) + 1) + 1)).bind fun c14 =>
    (run_fbg [.agg [Cell.str s10, Cell.int i11, Cell.int i12, Cell.int i13, c14], .one (c4)] H7).bind fun r15 =>
    cond (shapeOk rk_fbg r15.1)
    ((cB (cellsAt r15.1 0) 0).bind fun b16 =>
    cond b16
    (some ([.one (Cell.int i6)], r15.2))
    (slices_IndexFunc_Pick_fbg_l0 k m n (c3) (c4) i5 (IntKind.i64.wrap (i6 + 1)) r15.2))
    none)
    (some ([.one (Cell.int (-1))], H7))
noncomputable def slices_IndexFunc_Pick_fbg (k m : Nat) (c1 : Cell) (q2 : Cell) (H : List Entry) : Option Res :=
  (lenC c1).bind fun n2 =>
  slices_IndexFunc_Pick_fbg_l0 k m m (c1) (q2) (n2 : Int) 0 H
noncomputable abbrev slices_IndexFunc_Pick_fbg_l0_B (k m : Nat) : (Ex → Fr → Option Res) → Fr → Option Res := evC G_fcu fi_fcu (evF G_fcu (k + 1)) m (sub [1, 0, 1, 2, 3] fi_fcu.code) none
noncomputable abbrev slices_IndexFunc_Pick_fbg_l0_K (k m : Nat) : Ex → Fr → Option Res := blockK 0 (seqK (evC G_fcu fi_fcu (evF G_fcu (k + 1)) m (sub [1, 1] fi_fcu.code) none) (retK G_fcu fi_fcu))
theorem slices_IndexFunc_Pick_fbg_l0_eq (k m : Nat) : ∀ (n : Nat) (c3 : Cell) (c4 : Cell) (i5 : Int) (i6 : Int) (H7 : List Entry), loopK (some [0, 1, 7, 8]) (slices_IndexFunc_Pick_fbg_l0_B k m) (slices_IndexFunc_Pick_fbg_l0_K k m) n ⟨fT 19 0 [(0, .av (.one (c3))), (1, .av (.one (.fn fid_fbg [] [c4]))), (7, .av (.one (Cell.int i5))), (8, .av (.one (Cell.int i6)))], fX 19 0 [], H7⟩ = slices_IndexFunc_Pick_fbg_l0 (k + 1) m n c3 c4 i5 i6 H7 := by
  intro n
  induction n with
  | zero => intros; rfl
  | succ n ih =>
    intros
    simp only [slices_IndexFunc_Pick_fbg_l0, ← ih]
    kernel_rfl
theorem slices_IndexFunc_Pick_fbg_code (k m : Nat) (c1 : Cell) (q2 : Cell) (H : List Entry) : evC G_fcu fi_fcu (evF G_fcu (k + 1)) m fi_fcu.code none (retK G_fcu fi_fcu) (enter fi_fcu [.one (c1), .one (.fn fid_fbg [] [q2])] H) = slices_IndexFunc_Pick_fbg (k + 1) m c1 q2 H := by
  simp only [slices_IndexFunc_Pick_fbg, ← slices_IndexFunc_Pick_fbg_l0_eq k m]
  kernel_rfl
theorem slices_IndexFunc_Pick_fbg_eq (k : Nat) (c1 : Cell) (q2 : Cell) (H : List Entry) : evF G_fcu (k + 2) fid_fcu [.one (c1), .one (.fn fid_fbg [] [q2])] H = slices_IndexFunc_Pick_fbg (k + 1) (k + 1) c1 q2 H :=
  Eq.trans (by kernel_rfl) (slices_IndexFunc_Pick_fbg_code k (k + 1) c1 q2 H)
theorem run_slices_IndexFunc_Pick_fbg_of {c1 : Cell} {q2 : Cell} {H : List Entry} {r : Res} (k : Nat) (h : slices_IndexFunc_Pick_fbg (k + 1) (k + 1) c1 q2 H = some r) : run_fcu [.one (c1), .one (.fn fid_fbg [] [q2])] H = some r := lim_of ((slices_IndexFunc_Pick_fbg_eq k c1 q2 H).trans h)
noncomputable def pl_fbf : List (Nat × Run) := [(fid_fcu, run_fcu), (fid_fbg, run_fbg)]
noncomputable def G_fbf : Ctx := ctx tyTab fiTab pl_fbf
noncomputable def run_fbf : Run := lim G_fbf fid_fbf
theorem ok_fbf : FnOk Tryz.prog OkT fid_fbf run_fbf := lim_ok (l := pl_fbf) Tryz_mix tyTab_ok fiTab_ok okT (.cons ok_fcu (.cons ok_fbg .nil)) fid_fbf
noncomputable def fbf (k m : Nat) (c1 : Cell) (s2 : ByteArray) : Option Res :=
  (run_fcu [.one (c1), .one (.fn fid_fbg [] [.ptr 0 1 0 0 0])] [Entry.mk 1 [[Cell.str s2]] 0 false]).bind fun r3 =>
  cond (shapeOk rk_fcu r3.1)
  ((cI .i64 (cellsAt r3.1 0) 0).bind fun i4 =>
  some ([.one (Cell.int i4)], r3.2))
  none
theorem fbf_code (k m : Nat) (c1 : Cell) (s2 : ByteArray) : evC G_fbf fi_fbf (evF G_fbf (k + 1)) m fi_fbf.code none (retK G_fbf fi_fbf) (enter fi_fbf [.one (c1), .one (Cell.str s2)] []) = fbf (k + 1) m c1 s2 := by
  kernel_rfl
theorem fbf_eq (k : Nat) (c1 : Cell) (s2 : ByteArray) : evF G_fbf (k + 2) fid_fbf [.one (c1), .one (Cell.str s2)] [] = fbf (k + 1) (k + 1) c1 s2 :=
  Eq.trans (by kernel_rfl) (fbf_code k (k + 1) c1 s2)
theorem run_fbf_of {c1 : Cell} {s2 : ByteArray} {r : Res} (k : Nat) (h : fbf (k + 1) (k + 1) c1 s2 = some r) : run_fbf [.one (c1), .one (Cell.str s2)] [] = some r := lim_of ((fbf_eq k c1 s2).trans h)
noncomputable def pl_fer : List (Nat × Run) := []
noncomputable def G_fer : Ctx := ctx tyTab fiTab pl_fer
noncomputable def run_fer : Run := lim G_fer fid_fer
theorem ok_fer : FnOk Tryz.prog OkT fid_fer run_fer := lim_ok (l := pl_fer) Tryz_mix tyTab_ok fiTab_ok okT .nil fid_fer
noncomputable def pl_fes : List (Nat × Run) := []
noncomputable def G_fes : Ctx := ctx tyTab fiTab pl_fes
noncomputable def run_fes : Run := lim G_fes fid_fes
theorem ok_fes : FnOk Tryz.prog OkT fid_fes run_fes := lim_ok (l := pl_fes) Tryz_mix tyTab_ok fiTab_ok okT .nil fid_fes
noncomputable def pl_feq : List (Nat × Run) := [(fid_fes, run_fes)]
noncomputable def G_feq : Ctx := ctx tyTab fiTab pl_feq
noncomputable def run_feq : Run := lim G_feq fid_feq
theorem ok_feq : FnOk Tryz.prog OkT fid_feq run_feq := lim_ok (l := pl_feq) Tryz_mix tyTab_ok fiTab_ok okT (.cons ok_fes .nil) fid_feq
noncomputable def pl_feo : List (Nat × Run) := [(fid_fer, run_fer), (fid_feq, run_feq)]
noncomputable def G_feo : Ctx := ctx tyTab fiTab pl_feo
noncomputable def run_feo : Run := lim G_feo fid_feo
theorem ok_feo : FnOk Tryz.prog OkT fid_feo run_feo := lim_ok (l := pl_feo) Tryz_mix tyTab_ok fiTab_ok okT (.cons ok_fer (.cons ok_feq .nil)) fid_feo
end Go.Ev
