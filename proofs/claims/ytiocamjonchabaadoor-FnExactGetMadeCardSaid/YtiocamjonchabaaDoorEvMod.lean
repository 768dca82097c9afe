/- The values that the laws speak of, as Lean has them, and how they lie in cells. Conditions: none. -/
import Derived.Test.YtiocamjonchabaaDoorEvLib
import Derived.Test.YtiocamjonchabaaDoorEvPr
import Derived.Test.YtiocamjonchabaaDoorEvMem
set_option linter.unusedSimpArgs false
set_option linter.unusedVariables false
namespace Go.Ev
open Go
noncomputable def Γ0 : Ctx := ctx tyTab fiTab []
structure MEnv where
  Name : Str
  Val : Str
deriving DecidableEq
def MEnv.enc (x : MEnv) : List Cell := [Cell.str (bs x.Name), Cell.str (bs x.Val)]
instance : CanonE MEnv.enc := ⟨fun _ => CanonLs.canon (cs := [_, _])⟩
def MEnv.wt (x : MEnv) : Nat := (wtS x.Name) + (wtS x.Val)
def MEnv.Bd (N : Nat) (x : MEnv) : Prop := (bdS N x.Name) ∧ (bdS N x.Val)
theorem MEnv.bd_wt {N M : Nat} {x : MEnv} (h : x.Bd M) (hw : x.wt ≤ N) : x.Bd N := ⟨(show bdS N (x.Name) from (by simp only [MEnv.wt] at hw; omega : wtS (x.Name) ≤ N)), (show bdS N (x.Val) from (by simp only [MEnv.wt] at hw; omega : wtS (x.Val) ≤ N))⟩
theorem MEnv.of_wt : ∀ (n : Nat) (cs : List Cell), WT Γ0 n 162 cs → ∃ x : MEnv, cs = x.enc ∧ x.Bd maxLen := by
  intro n cs h
  obtain ⟨n, rfl⟩ := WT_succ h
  have h := WT_struct h (by kernel_rfl : Γ0.ty 162 = some ty162) rfl
  simp only [List.map_cons, List.map_nil, WTs] at h
  obtain ⟨a0, b0, e0, h0, a1, b1, e1, h1, e2⟩ := h
  obtain ⟨x0, f0, g0⟩ := WT_str h0 (by kernel_rfl : Γ0.ty 9 = some ty9) rfl
  obtain ⟨x1, f1, g1⟩ := WT_str h1 (by kernel_rfl : Γ0.ty 9 = some ty9) rfl
  refine ⟨⟨x0, x1⟩, ?_, ⟨g0, g1⟩⟩
  subst f0 f1
  rw [e0, e1, e2]
  rfl
def MEnv.tr (x : MEnv) : List Tr := [.leaf (.string (bs x.Name)), .leaf (.string (bs x.Val))]
instance : TrE MEnv.tr MEnv.enc := ⟨fun x => by simp only [MEnv.tr, MEnv.enc, List.map_cons, List.map_nil, leaf_cell, trL_cell]⟩
def MEnv.mkR (x : MEnv) (k : Nat) : MEnv := ⟨markB k, markB (k + 1)⟩
def MEnv.cntR (x : MEnv) : Nat := ((0 + 1) + 1)
def MEnv.mkA (x : MEnv) (k : Nat) : MEnv := ⟨x.Name, x.Val⟩
def MEnv.cntA (x : MEnv) : Nat := 0
theorem MEnv.cntR_le (x : MEnv) : x.cntR ≤ 8 + 8 * x.wt := by
  simp only [MEnv.cntR, MEnv.wt] <;> omega
theorem MEnv.cntA_le (x : MEnv) : x.cntA ≤ 8 * x.wt := by
  simp only [MEnv.cntA, MEnv.wt] <;> omega
theorem MEnv.open {H : List Entry} {w q : Bool} {n : Nat} {ids : List Nat} {cs : List Cell} {x : MEnv} (h0 : Sp (Rep H w q n) ids cs x.tr) : cs = [Cell.str (bs x.Name), Cell.str (bs x.Val)] := by
  simp only [MEnv.tr] at h0
  obtain ⟨cs, rfl, h1⟩ := Sp.leaf_inv h0
  obtain ⟨cs, rfl, h2⟩ := Sp.leaf_inv h1
  obtain ⟨_, rfl⟩ := h2.nil_inv
  rfl
structure MFile where
  Path : Str
  Text : Str
deriving DecidableEq
def MFile.enc (x : MFile) : List Cell := [Cell.str (bs x.Path), Cell.str (bs x.Text)]
instance : CanonE MFile.enc := ⟨fun _ => CanonLs.canon (cs := [_, _])⟩
def MFile.wt (x : MFile) : Nat := (wtS x.Path) + (wtS x.Text)
def MFile.Bd (N : Nat) (x : MFile) : Prop := (bdS N x.Path) ∧ (bdS N x.Text)
theorem MFile.bd_wt {N M : Nat} {x : MFile} (h : x.Bd M) (hw : x.wt ≤ N) : x.Bd N := ⟨(show bdS N (x.Path) from (by simp only [MFile.wt] at hw; omega : wtS (x.Path) ≤ N)), (show bdS N (x.Text) from (by simp only [MFile.wt] at hw; omega : wtS (x.Text) ≤ N))⟩
theorem MFile.of_wt : ∀ (n : Nat) (cs : List Cell), WT Γ0 n 149 cs → ∃ x : MFile, cs = x.enc ∧ x.Bd maxLen := by
  intro n cs h
  obtain ⟨n, rfl⟩ := WT_succ h
  have h := WT_struct h (by kernel_rfl : Γ0.ty 149 = some ty149) rfl
  simp only [List.map_cons, List.map_nil, WTs] at h
  obtain ⟨a0, b0, e0, h0, a1, b1, e1, h1, e2⟩ := h
  obtain ⟨x0, f0, g0⟩ := WT_str h0 (by kernel_rfl : Γ0.ty 9 = some ty9) rfl
  obtain ⟨x1, f1, g1⟩ := WT_str h1 (by kernel_rfl : Γ0.ty 9 = some ty9) rfl
  refine ⟨⟨x0, x1⟩, ?_, ⟨g0, g1⟩⟩
  subst f0 f1
  rw [e0, e1, e2]
  rfl
def MFile.tr (x : MFile) : List Tr := [.leaf (.string (bs x.Path)), .leaf (.string (bs x.Text))]
instance : TrE MFile.tr MFile.enc := ⟨fun x => by simp only [MFile.tr, MFile.enc, List.map_cons, List.map_nil, leaf_cell, trL_cell]⟩
def MFile.mkR (x : MFile) (k : Nat) : MFile := ⟨markB k, markB (k + 1)⟩
def MFile.cntR (x : MFile) : Nat := ((0 + 1) + 1)
def MFile.mkA (x : MFile) (k : Nat) : MFile := ⟨x.Path, x.Text⟩
def MFile.cntA (x : MFile) : Nat := 0
theorem MFile.cntR_le (x : MFile) : x.cntR ≤ 8 + 8 * x.wt := by
  simp only [MFile.cntR, MFile.wt] <;> omega
theorem MFile.cntA_le (x : MFile) : x.cntA ≤ 8 * x.wt := by
  simp only [MFile.cntA, MFile.wt] <;> omega
theorem MFile.open {H : List Entry} {w q : Bool} {n : Nat} {ids : List Nat} {cs : List Cell} {x : MFile} (h0 : Sp (Rep H w q n) ids cs x.tr) : cs = [Cell.str (bs x.Path), Cell.str (bs x.Text)] := by
  simp only [MFile.tr] at h0
  obtain ⟨cs, rfl, h1⟩ := Sp.leaf_inv h0
  obtain ⟨cs, rfl, h2⟩ := Sp.leaf_inv h1
  obtain ⟨_, rfl⟩ := h2.nil_inv
  rfl
structure MMade where
  Task : Str
  Outs : List MFile
  Log : Str
deriving DecidableEq
def MMade.enc (x : MMade) : List Cell := [Cell.str (bs x.Task), encL 2 MFile.enc x.Outs, Cell.str (bs x.Log)]
instance : CanonE MMade.enc := ⟨fun _ => CanonLs.canon (cs := [_, _, _])⟩
def MMade.wt (x : MMade) : Nat := (wtS x.Task) + (wtL MFile.wt x.Outs) + (wtS x.Log)
def MMade.Bd (N : Nat) (x : MMade) : Prop := (bdS N x.Task) ∧ (bdL N (MFile.Bd N) x.Outs) ∧ (bdS N x.Log)
theorem MMade.bd_wt {N M : Nat} {x : MMade} (h : x.Bd M) (hw : x.wt ≤ N) : x.Bd N := ⟨(show bdS N (x.Task) from (by simp only [MMade.wt] at hw; omega : wtS (x.Task) ≤ N)), bdL_wt (w := MFile.wt) h.2.1 (by simp only [MMade.wt] at hw; omega : wtL MFile.wt (x.Outs) ≤ N) (fun y h hw => MFile.bd_wt h (hw : MFile.wt (y) ≤ N)), (show bdS N (x.Log) from (by simp only [MMade.wt] at hw; omega : wtS (x.Log) ≤ N))⟩
theorem MMade.of_wt : ∀ (n : Nat) (cs : List Cell), WT Γ0 n 25 cs → ∃ x : MMade, cs = x.enc ∧ x.Bd maxLen := by
  intro n cs h
  obtain ⟨n, rfl⟩ := WT_succ h
  have h := WT_struct h (by kernel_rfl : Γ0.ty 25 = some ty25) rfl
  simp only [List.map_cons, List.map_nil, WTs] at h
  obtain ⟨a0, b0, e0, h0, a1, b1, e1, h1, a2, b2, e2, h2, e3⟩ := h
  obtain ⟨x0, f0, g0⟩ := WT_str h0 (by kernel_rfl : Γ0.ty 9 = some ty9) rfl
  obtain ⟨x1, f1, g1⟩ := WT_slice (e0 := MFile.enc) (b := (MFile.Bd maxLen)) h1 (by kernel_rfl : Γ0.ty 23 = some ty23) rfl (by kernel_rfl : Γ0.ty 149 = some ty149) (fun n r h => MFile.of_wt _ _ h)
  obtain ⟨x2, f2, g2⟩ := WT_str h2 (by kernel_rfl : Γ0.ty 9 = some ty9) rfl
  refine ⟨⟨x0, x1, x2⟩, ?_, ⟨g0, g1, g2⟩⟩
  subst f0 f1 f2
  rw [e0, e1, e2, e3]
  rfl
def MMade.tr (x : MMade) : List Tr := [.leaf (.string (bs x.Task)), trL 2 MFile.tr x.Outs, .leaf (.string (bs x.Log))]
instance : TrE MMade.tr MMade.enc := ⟨fun x => by simp only [MMade.tr, MMade.enc, List.map_cons, List.map_nil, leaf_cell, trL_cell]⟩
def MMade.mkR (x : MMade) (k : Nat) : MMade := ⟨markB k, mkL MFile.mkR MFile.cntR x.Outs (k + 1), markB ((k + 1) + cntL MFile.cntR x.Outs)⟩
def MMade.cntR (x : MMade) : Nat := (((0 + 1) + cntL MFile.cntR x.Outs) + 1)
def MMade.mkA (x : MMade) (k : Nat) : MMade := ⟨x.Task, mkL MFile.mkR MFile.cntR x.Outs k, x.Log⟩
def MMade.cntA (x : MMade) : Nat := (0 + cntL MFile.cntR x.Outs)
theorem MMade.cntR_le (x : MMade) : x.cntR ≤ 8 + 8 * x.wt := by
  have g1 := (cntL_le (w := MFile.wt) MFile.cntR_le (x.Outs))
  simp only [MMade.cntR, MMade.wt] <;> omega
theorem MMade.cntA_le (x : MMade) : x.cntA ≤ 8 * x.wt := by
  have g1 := (cntL_le (w := MFile.wt) MFile.cntR_le (x.Outs))
  simp only [MMade.cntA, MMade.wt] <;> omega
theorem MMade.open {H : List Entry} {w q : Bool} {n : Nat} {ids : List Nat} {cs : List Cell} {x : MMade} (h0 : Sp (Rep H w q n) ids cs x.tr) : ∃ c1, cs = [Cell.str (bs x.Task), c1, Cell.str (bs x.Log)] := by
  simp only [MMade.tr] at h0
  obtain ⟨cs, rfl, h1⟩ := Sp.leaf_inv h0
  obtain ⟨c1, cs, rfl, _, h2⟩ := Sp.list_inv h1
  obtain ⟨cs, rfl, h3⟩ := Sp.leaf_inv h2
  obtain ⟨_, rfl⟩ := h3.nil_inv
  exact ⟨c1, rfl⟩
structure MJob where
  Name : Str
  Acts : List Str
  Ins : List MFile
  Envs : List MEnv
  Deps : List MMade
deriving DecidableEq
def MJob.enc (x : MJob) : List Cell := [Cell.str (bs x.Name), encL 1 eStr x.Acts, encL 2 MFile.enc x.Ins, encL 2 MEnv.enc x.Envs, encL 3 MMade.enc x.Deps]
instance : CanonE MJob.enc := ⟨fun _ => CanonLs.canon (cs := [_, _, _, _, _])⟩
def MJob.wt (x : MJob) : Nat := (wtS x.Name) + (wtL wtS x.Acts) + (wtL MFile.wt x.Ins) + (wtL MEnv.wt x.Envs) + (wtL MMade.wt x.Deps)
def MJob.Bd (N : Nat) (x : MJob) : Prop := (bdS N x.Name) ∧ (bdL N (bdS N) x.Acts) ∧ (bdL N (MFile.Bd N) x.Ins) ∧ (bdL N (MEnv.Bd N) x.Envs) ∧ (bdL N (MMade.Bd N) x.Deps)
theorem MJob.bd_wt {N M : Nat} {x : MJob} (h : x.Bd M) (hw : x.wt ≤ N) : x.Bd N := ⟨(show bdS N (x.Name) from (by simp only [MJob.wt] at hw; omega : wtS (x.Name) ≤ N)), bdL_wt (w := wtS) h.2.1 (by simp only [MJob.wt] at hw; omega : wtL wtS (x.Acts) ≤ N) (fun y h hw => (show bdS N (y) from (hw : wtS (y) ≤ N))), bdL_wt (w := MFile.wt) h.2.2.1 (by simp only [MJob.wt] at hw; omega : wtL MFile.wt (x.Ins) ≤ N) (fun y h hw => MFile.bd_wt h (hw : MFile.wt (y) ≤ N)), bdL_wt (w := MEnv.wt) h.2.2.2.1 (by simp only [MJob.wt] at hw; omega : wtL MEnv.wt (x.Envs) ≤ N) (fun y h hw => MEnv.bd_wt h (hw : MEnv.wt (y) ≤ N)), bdL_wt (w := MMade.wt) h.2.2.2.2 (by simp only [MJob.wt] at hw; omega : wtL MMade.wt (x.Deps) ≤ N) (fun y h hw => MMade.bd_wt h (hw : MMade.wt (y) ≤ N))⟩
theorem MJob.of_wt : ∀ (n : Nat) (cs : List Cell), WT Γ0 n 61 cs → ∃ x : MJob, cs = x.enc ∧ x.Bd maxLen := by
  intro n cs h
  obtain ⟨n, rfl⟩ := WT_succ h
  have h := WT_struct h (by kernel_rfl : Γ0.ty 61 = some ty61) rfl
  simp only [List.map_cons, List.map_nil, WTs] at h
  obtain ⟨a0, b0, e0, h0, a1, b1, e1, h1, a2, b2, e2, h2, a3, b3, e3, h3, a4, b4, e4, h4, e5⟩ := h
  obtain ⟨x0, f0, g0⟩ := WT_str h0 (by kernel_rfl : Γ0.ty 9 = some ty9) rfl
  obtain ⟨x1, f1, g1⟩ := WT_slice (e0 := eStr) (b := (bdS maxLen)) h1 (by kernel_rfl : Γ0.ty 57 = some ty57) rfl (by kernel_rfl : Γ0.ty 9 = some ty9) (fun n r h => WT_str h (by kernel_rfl : Γ0.ty 9 = some ty9) rfl)
  obtain ⟨x2, f2, g2⟩ := WT_slice (e0 := MFile.enc) (b := (MFile.Bd maxLen)) h2 (by kernel_rfl : Γ0.ty 23 = some ty23) rfl (by kernel_rfl : Γ0.ty 149 = some ty149) (fun n r h => MFile.of_wt _ _ h)
  obtain ⟨x3, f3, g3⟩ := WT_slice (e0 := MEnv.enc) (b := (MEnv.Bd maxLen)) h3 (by kernel_rfl : Γ0.ty 58 = some ty58) rfl (by kernel_rfl : Γ0.ty 162 = some ty162) (fun n r h => MEnv.of_wt _ _ h)
  obtain ⟨x4, f4, g4⟩ := WT_slice (e0 := MMade.enc) (b := (MMade.Bd maxLen)) h4 (by kernel_rfl : Γ0.ty 59 = some ty59) rfl (by kernel_rfl : Γ0.ty 25 = some ty25) (fun n r h => MMade.of_wt _ _ h)
  refine ⟨⟨x0, x1, x2, x3, x4⟩, ?_, ⟨g0, g1, g2, g3, g4⟩⟩
  subst f0 f1 f2 f3 f4
  rw [e0, e1, e2, e3, e4, e5]
  rfl
def MJob.tr (x : MJob) : List Tr := [.leaf (.string (bs x.Name)), trL 1 trStr x.Acts, trL 2 MFile.tr x.Ins, trL 2 MEnv.tr x.Envs, trL 3 MMade.tr x.Deps]
instance : TrE MJob.tr MJob.enc := ⟨fun x => by simp only [MJob.tr, MJob.enc, List.map_cons, List.map_nil, leaf_cell, trL_cell]⟩
def MJob.mkR (x : MJob) (k : Nat) : MJob := ⟨markB k, mkL mkStr one1 x.Acts (k + 1), mkL MFile.mkR MFile.cntR x.Ins ((k + 1) + cntL one1 x.Acts), mkL MEnv.mkR MEnv.cntR x.Envs (((k + 1) + cntL one1 x.Acts) + cntL MFile.cntR x.Ins), mkL MMade.mkR MMade.cntR x.Deps ((((k + 1) + cntL one1 x.Acts) + cntL MFile.cntR x.Ins) + cntL MEnv.cntR x.Envs)⟩
def MJob.cntR (x : MJob) : Nat := (((((0 + 1) + cntL one1 x.Acts) + cntL MFile.cntR x.Ins) + cntL MEnv.cntR x.Envs) + cntL MMade.cntR x.Deps)
def MJob.mkA (x : MJob) (k : Nat) : MJob := ⟨x.Name, mkL mkStr one1 x.Acts k, mkL MFile.mkR MFile.cntR x.Ins (k + cntL one1 x.Acts), mkL MEnv.mkR MEnv.cntR x.Envs ((k + cntL one1 x.Acts) + cntL MFile.cntR x.Ins), mkL MMade.mkR MMade.cntR x.Deps (((k + cntL one1 x.Acts) + cntL MFile.cntR x.Ins) + cntL MEnv.cntR x.Envs)⟩
def MJob.cntA (x : MJob) : Nat := ((((0 + cntL one1 x.Acts) + cntL MFile.cntR x.Ins) + cntL MEnv.cntR x.Envs) + cntL MMade.cntR x.Deps)
theorem MJob.cntR_le (x : MJob) : x.cntR ≤ 8 + 8 * x.wt := by
  have g1 := (cntL_le (w := wtS) one1_le (x.Acts))
  have g2 := (cntL_le (w := MFile.wt) MFile.cntR_le (x.Ins))
  have g3 := (cntL_le (w := MEnv.wt) MEnv.cntR_le (x.Envs))
  have g4 := (cntL_le (w := MMade.wt) MMade.cntR_le (x.Deps))
  simp only [MJob.cntR, MJob.wt] <;> omega
theorem MJob.cntA_le (x : MJob) : x.cntA ≤ 8 * x.wt := by
  have g1 := (cntL_le (w := wtS) one1_le (x.Acts))
  have g2 := (cntL_le (w := MFile.wt) MFile.cntR_le (x.Ins))
  have g3 := (cntL_le (w := MEnv.wt) MEnv.cntR_le (x.Envs))
  have g4 := (cntL_le (w := MMade.wt) MMade.cntR_le (x.Deps))
  simp only [MJob.cntA, MJob.wt] <;> omega
theorem MJob.open {H : List Entry} {w q : Bool} {n : Nat} {ids : List Nat} {cs : List Cell} {x : MJob} (h0 : Sp (Rep H w q n) ids cs x.tr) : ∃ c1 c2 c3 c4, cs = [Cell.str (bs x.Name), c1, c2, c3, c4] := by
  simp only [MJob.tr] at h0
  obtain ⟨cs, rfl, h1⟩ := Sp.leaf_inv h0
  obtain ⟨c1, cs, rfl, _, h2⟩ := Sp.list_inv h1
  obtain ⟨c2, cs, rfl, _, h3⟩ := Sp.list_inv h2
  obtain ⟨c3, cs, rfl, _, h4⟩ := Sp.list_inv h3
  obtain ⟨c4, cs, rfl, _, h5⟩ := Sp.list_inv h4
  obtain ⟨_, rfl⟩ := h5.nil_inv
  exact ⟨c1, c2, c3, c4, rfl⟩
structure MVer where
  A : Int
  B : Int
  C : Int
  Pre : List Str
deriving DecidableEq
def MVer.enc (x : MVer) : List Cell := [Cell.int x.A, Cell.int x.B, Cell.int x.C, encL 1 eStr x.Pre]
instance : CanonE MVer.enc := ⟨fun _ => CanonLs.canon (cs := [_, _, _, _])⟩
def MVer.wt (x : MVer) : Nat := (wtL wtS x.Pre)
def MVer.Bd (N : Nat) (x : MVer) : Prop := (bdI x.A) ∧ (bdI x.B) ∧ (bdI x.C) ∧ (bdL N (bdS N) x.Pre)
theorem MVer.bd_wt {N M : Nat} {x : MVer} (h : x.Bd M) (hw : x.wt ≤ N) : x.Bd N := ⟨h.1, h.2.1, h.2.2.1, bdL_wt (w := wtS) h.2.2.2 (by simp only [MVer.wt] at hw; omega : wtL wtS (x.Pre) ≤ N) (fun y h hw => (show bdS N (y) from (hw : wtS (y) ≤ N)))⟩
theorem MVer.of_wt : ∀ (n : Nat) (cs : List Cell), WT Γ0 n 104 cs → ∃ x : MVer, cs = x.enc ∧ x.Bd maxLen := by
  intro n cs h
  obtain ⟨n, rfl⟩ := WT_succ h
  have h := WT_struct h (by kernel_rfl : Γ0.ty 104 = some ty104) rfl
  simp only [List.map_cons, List.map_nil, WTs] at h
  obtain ⟨a0, b0, e0, h0, a1, b1, e1, h1, a2, b2, e2, h2, a3, b3, e3, h3, e4⟩ := h
  obtain ⟨x0, f0, g0⟩ := WT_int h0 (by kernel_rfl : Γ0.ty 3 = some ty3) rfl
  obtain ⟨x1, f1, g1⟩ := WT_int h1 (by kernel_rfl : Γ0.ty 3 = some ty3) rfl
  obtain ⟨x2, f2, g2⟩ := WT_int h2 (by kernel_rfl : Γ0.ty 3 = some ty3) rfl
  obtain ⟨x3, f3, g3⟩ := WT_slice (e0 := eStr) (b := (bdS maxLen)) h3 (by kernel_rfl : Γ0.ty 57 = some ty57) rfl (by kernel_rfl : Γ0.ty 9 = some ty9) (fun n r h => WT_str h (by kernel_rfl : Γ0.ty 9 = some ty9) rfl)
  refine ⟨⟨x0, x1, x2, x3⟩, ?_, ⟨g0, g1, g2, g3⟩⟩
  subst f0 f1 f2 f3
  rw [e0, e1, e2, e3, e4]
  rfl
def MVer.tr (x : MVer) : List Tr := [.leaf (.int .i64 x.A), .leaf (.int .i64 x.B), .leaf (.int .i64 x.C), trL 1 trStr x.Pre]
instance : TrE MVer.tr MVer.enc := ⟨fun x => by simp only [MVer.tr, MVer.enc, List.map_cons, List.map_nil, leaf_cell, trL_cell]⟩
def MVer.mkR (x : MVer) (k : Nat) : MVer := ⟨((k : Nat) : Int), (((k + 1) : Nat) : Int), ((((k + 1) + 1) : Nat) : Int), mkL mkStr one1 x.Pre (((k + 1) + 1) + 1)⟩
def MVer.cntR (x : MVer) : Nat := ((((0 + 1) + 1) + 1) + cntL one1 x.Pre)
def MVer.mkA (x : MVer) (k : Nat) : MVer := ⟨x.A, x.B, x.C, mkL mkStr one1 x.Pre k⟩
def MVer.cntA (x : MVer) : Nat := (0 + cntL one1 x.Pre)
theorem MVer.cntR_le (x : MVer) : x.cntR ≤ 8 + 8 * x.wt := by
  have g3 := (cntL_le (w := wtS) one1_le (x.Pre))
  simp only [MVer.cntR, MVer.wt] <;> omega
theorem MVer.cntA_le (x : MVer) : x.cntA ≤ 8 * x.wt := by
  have g3 := (cntL_le (w := wtS) one1_le (x.Pre))
  simp only [MVer.cntA, MVer.wt] <;> omega
theorem MVer.open {H : List Entry} {w q : Bool} {n : Nat} {ids : List Nat} {cs : List Cell} {x : MVer} (h0 : Sp (Rep H w q n) ids cs x.tr) : ∃ c3, cs = [Cell.int x.A, Cell.int x.B, Cell.int x.C, c3] := by
  simp only [MVer.tr] at h0
  obtain ⟨cs, rfl, h1⟩ := Sp.leaf_inv h0
  obtain ⟨cs, rfl, h2⟩ := Sp.leaf_inv h1
  obtain ⟨cs, rfl, h3⟩ := Sp.leaf_inv h2
  obtain ⟨c3, cs, rfl, _, h4⟩ := Sp.list_inv h3
  obtain ⟨_, rfl⟩ := h4.nil_inv
  exact ⟨c3, rfl⟩
structure MPick where
  Name : Str
  V : MVer
deriving DecidableEq
def MPick.enc (x : MPick) : List Cell := [Cell.str (bs x.Name), Cell.int x.V.A, Cell.int x.V.B, Cell.int x.V.C, encL 1 eStr x.V.Pre]
instance : CanonE MPick.enc := ⟨fun _ => CanonLs.canon (cs := [_, _, _, _, _])⟩
def MPick.wt (x : MPick) : Nat := (wtS x.Name) + (MVer.wt x.V)
def MPick.Bd (N : Nat) (x : MPick) : Prop := (bdS N x.Name) ∧ (MVer.Bd N x.V)
theorem MPick.bd_wt {N M : Nat} {x : MPick} (h : x.Bd M) (hw : x.wt ≤ N) : x.Bd N := ⟨(show bdS N (x.Name) from (by simp only [MPick.wt] at hw; omega : wtS (x.Name) ≤ N)), MVer.bd_wt h.2 (by simp only [MPick.wt] at hw; omega : MVer.wt (x.V) ≤ N)⟩
theorem MPick.of_wt : ∀ (n : Nat) (cs : List Cell), WT Γ0 n 106 cs → ∃ x : MPick, cs = x.enc ∧ x.Bd maxLen := by
  intro n cs h
  obtain ⟨n, rfl⟩ := WT_succ h
  have h := WT_struct h (by kernel_rfl : Γ0.ty 106 = some ty106) rfl
  simp only [List.map_cons, List.map_nil, WTs] at h
  obtain ⟨a0, b0, e0, h0, a1, b1, e1, h1, e2⟩ := h
  obtain ⟨x0, f0, g0⟩ := WT_str h0 (by kernel_rfl : Γ0.ty 9 = some ty9) rfl
  obtain ⟨x1, f1, g1⟩ := MVer.of_wt _ _ h1
  refine ⟨⟨x0, x1⟩, ?_, ⟨g0, g1⟩⟩
  subst f0 f1
  rw [e0, e1, e2]
  rfl
def MPick.tr (x : MPick) : List Tr := [.leaf (.string (bs x.Name)), .leaf (.int .i64 x.V.A), .leaf (.int .i64 x.V.B), .leaf (.int .i64 x.V.C), trL 1 trStr x.V.Pre]
instance : TrE MPick.tr MPick.enc := ⟨fun x => by simp only [MPick.tr, MPick.enc, List.map_cons, List.map_nil, leaf_cell, trL_cell]⟩
def MPick.mkR (x : MPick) (k : Nat) : MPick := ⟨markB k, ⟨(((k + 1) : Nat) : Int), ((((k + 1) + 1) : Nat) : Int), (((((k + 1) + 1) + 1) : Nat) : Int), mkL mkStr one1 x.V.Pre ((((k + 1) + 1) + 1) + 1)⟩⟩
def MPick.cntR (x : MPick) : Nat := (((((0 + 1) + 1) + 1) + 1) + cntL one1 x.V.Pre)
def MPick.mkA (x : MPick) (k : Nat) : MPick := ⟨x.Name, ⟨x.V.A, x.V.B, x.V.C, mkL mkStr one1 x.V.Pre k⟩⟩
def MPick.cntA (x : MPick) : Nat := (0 + cntL one1 x.V.Pre)
theorem MPick.cntR_le (x : MPick) : x.cntR ≤ 8 + 8 * x.wt := by
  have g4 := (cntL_le (w := wtS) one1_le (x.V.Pre))
  simp only [MPick.cntR, MPick.wt, MVer.wt] <;> omega
theorem MPick.cntA_le (x : MPick) : x.cntA ≤ 8 * x.wt := by
  have g4 := (cntL_le (w := wtS) one1_le (x.V.Pre))
  simp only [MPick.cntA, MPick.wt, MVer.wt] <;> omega
theorem MPick.open {H : List Entry} {w q : Bool} {n : Nat} {ids : List Nat} {cs : List Cell} {x : MPick} (h0 : Sp (Rep H w q n) ids cs x.tr) : ∃ c4, cs = [Cell.str (bs x.Name), Cell.int x.V.A, Cell.int x.V.B, Cell.int x.V.C, c4] := by
  simp only [MPick.tr] at h0
  obtain ⟨cs, rfl, h1⟩ := Sp.leaf_inv h0
  obtain ⟨cs, rfl, h2⟩ := Sp.leaf_inv h1
  obtain ⟨cs, rfl, h3⟩ := Sp.leaf_inv h2
  obtain ⟨cs, rfl, h4⟩ := Sp.leaf_inv h3
  obtain ⟨c4, cs, rfl, _, h5⟩ := Sp.list_inv h4
  obtain ⟨_, rfl⟩ := h5.nil_inv
  exact ⟨c4, rfl⟩
structure MRule where
  Task : Str
  On : List Str
  Ins : List Str
  Envs : List Str
  Keep : Bool
deriving DecidableEq
def MRule.enc (x : MRule) : List Cell := [Cell.str (bs x.Task), encL 1 eStr x.On, encL 1 eStr x.Ins, encL 1 eStr x.Envs, Cell.bool x.Keep]
instance : CanonE MRule.enc := ⟨fun _ => CanonLs.canon (cs := [_, _, _, _, _])⟩
def MRule.wt (x : MRule) : Nat := (wtS x.Task) + (wtL wtS x.On) + (wtL wtS x.Ins) + (wtL wtS x.Envs)
def MRule.Bd (N : Nat) (x : MRule) : Prop := (bdS N x.Task) ∧ (bdL N (bdS N) x.On) ∧ (bdL N (bdS N) x.Ins) ∧ (bdL N (bdS N) x.Envs) ∧ (True)
theorem MRule.bd_wt {N M : Nat} {x : MRule} (h : x.Bd M) (hw : x.wt ≤ N) : x.Bd N := ⟨(show bdS N (x.Task) from (by simp only [MRule.wt] at hw; omega : wtS (x.Task) ≤ N)), bdL_wt (w := wtS) h.2.1 (by simp only [MRule.wt] at hw; omega : wtL wtS (x.On) ≤ N) (fun y h hw => (show bdS N (y) from (hw : wtS (y) ≤ N))), bdL_wt (w := wtS) h.2.2.1 (by simp only [MRule.wt] at hw; omega : wtL wtS (x.Ins) ≤ N) (fun y h hw => (show bdS N (y) from (hw : wtS (y) ≤ N))), bdL_wt (w := wtS) h.2.2.2.1 (by simp only [MRule.wt] at hw; omega : wtL wtS (x.Envs) ≤ N) (fun y h hw => (show bdS N (y) from (hw : wtS (y) ≤ N))), h.2.2.2.2⟩
theorem MRule.of_wt : ∀ (n : Nat) (cs : List Cell), WT Γ0 n 124 cs → ∃ x : MRule, cs = x.enc ∧ x.Bd maxLen := by
  intro n cs h
  obtain ⟨n, rfl⟩ := WT_succ h
  have h := WT_struct h (by kernel_rfl : Γ0.ty 124 = some ty124) rfl
  simp only [List.map_cons, List.map_nil, WTs] at h
  obtain ⟨a0, b0, e0, h0, a1, b1, e1, h1, a2, b2, e2, h2, a3, b3, e3, h3, a4, b4, e4, h4, e5⟩ := h
  obtain ⟨x0, f0, g0⟩ := WT_str h0 (by kernel_rfl : Γ0.ty 9 = some ty9) rfl
  obtain ⟨x1, f1, g1⟩ := WT_slice (e0 := eStr) (b := (bdS maxLen)) h1 (by kernel_rfl : Γ0.ty 57 = some ty57) rfl (by kernel_rfl : Γ0.ty 9 = some ty9) (fun n r h => WT_str h (by kernel_rfl : Γ0.ty 9 = some ty9) rfl)
  obtain ⟨x2, f2, g2⟩ := WT_slice (e0 := eStr) (b := (bdS maxLen)) h2 (by kernel_rfl : Γ0.ty 57 = some ty57) rfl (by kernel_rfl : Γ0.ty 9 = some ty9) (fun n r h => WT_str h (by kernel_rfl : Γ0.ty 9 = some ty9) rfl)
  obtain ⟨x3, f3, g3⟩ := WT_slice (e0 := eStr) (b := (bdS maxLen)) h3 (by kernel_rfl : Γ0.ty 57 = some ty57) rfl (by kernel_rfl : Γ0.ty 9 = some ty9) (fun n r h => WT_str h (by kernel_rfl : Γ0.ty 9 = some ty9) rfl)
  obtain ⟨x4, f4, g4⟩ := WT_bool h4 (by kernel_rfl : Γ0.ty 4 = some ty4) rfl
  refine ⟨⟨x0, x1, x2, x3, x4⟩, ?_, ⟨g0, g1, g2, g3, g4⟩⟩
  subst f0 f1 f2 f3 f4
  rw [e0, e1, e2, e3, e4, e5]
  rfl
def MRule.tr (x : MRule) : List Tr := [.leaf (.string (bs x.Task)), trL 1 trStr x.On, trL 1 trStr x.Ins, trL 1 trStr x.Envs, .leaf (.bool x.Keep)]
instance : TrE MRule.tr MRule.enc := ⟨fun x => by simp only [MRule.tr, MRule.enc, List.map_cons, List.map_nil, leaf_cell, trL_cell]⟩
def MRule.mkR (x : MRule) (k : Nat) : MRule := ⟨markB k, mkL mkStr one1 x.On (k + 1), mkL mkStr one1 x.Ins ((k + 1) + cntL one1 x.On), mkL mkStr one1 x.Envs (((k + 1) + cntL one1 x.On) + cntL one1 x.Ins), (((((((k + 1) + cntL one1 x.On) + cntL one1 x.Ins) + cntL one1 x.Envs) : Nat) : Int).tmod 3 == 0)⟩
def MRule.cntR (x : MRule) : Nat := (((((0 + 1) + cntL one1 x.On) + cntL one1 x.Ins) + cntL one1 x.Envs) + 1)
def MRule.mkA (x : MRule) (k : Nat) : MRule := ⟨x.Task, mkL mkStr one1 x.On k, mkL mkStr one1 x.Ins (k + cntL one1 x.On), mkL mkStr one1 x.Envs ((k + cntL one1 x.On) + cntL one1 x.Ins), x.Keep⟩
def MRule.cntA (x : MRule) : Nat := (((0 + cntL one1 x.On) + cntL one1 x.Ins) + cntL one1 x.Envs)
theorem MRule.cntR_le (x : MRule) : x.cntR ≤ 8 + 8 * x.wt := by
  have g1 := (cntL_le (w := wtS) one1_le (x.On))
  have g2 := (cntL_le (w := wtS) one1_le (x.Ins))
  have g3 := (cntL_le (w := wtS) one1_le (x.Envs))
  simp only [MRule.cntR, MRule.wt] <;> omega
theorem MRule.cntA_le (x : MRule) : x.cntA ≤ 8 * x.wt := by
  have g1 := (cntL_le (w := wtS) one1_le (x.On))
  have g2 := (cntL_le (w := wtS) one1_le (x.Ins))
  have g3 := (cntL_le (w := wtS) one1_le (x.Envs))
  simp only [MRule.cntA, MRule.wt] <;> omega
theorem MRule.open {H : List Entry} {w q : Bool} {n : Nat} {ids : List Nat} {cs : List Cell} {x : MRule} (h0 : Sp (Rep H w q n) ids cs x.tr) : ∃ c1 c2 c3, cs = [Cell.str (bs x.Task), c1, c2, c3, Cell.bool x.Keep] := by
  simp only [MRule.tr] at h0
  obtain ⟨cs, rfl, h1⟩ := Sp.leaf_inv h0
  obtain ⟨c1, cs, rfl, _, h2⟩ := Sp.list_inv h1
  obtain ⟨c2, cs, rfl, _, h3⟩ := Sp.list_inv h2
  obtain ⟨c3, cs, rfl, _, h4⟩ := Sp.list_inv h3
  obtain ⟨cs, rfl, h5⟩ := Sp.leaf_inv h4
  obtain ⟨_, rfl⟩ := h5.nil_inv
  exact ⟨c1, c2, c3, rfl⟩
end Go.Ev
