/- The values that the laws speak of, as Lean has them, and how they lie in cells. Conditions: none. -/
import Derived.Test.YtkpiaalieeacgaaEvLib
import Derived.Test.YtkpiaalieeacgaaEvPr
set_option linter.unusedSimpArgs false
set_option linter.unusedVariables false
namespace Go.Ev
open Go
noncomputable def Γ0 : Ctx := ctx tyTab fiTab []
structure MCmd where
  Task : Str
  Acts : List Str
deriving DecidableEq
def MCmd.enc (x : MCmd) : List Cell := [Cell.str (bs x.Task), encL 1 eStr x.Acts]
instance : CanonE MCmd.enc := ⟨fun _ => CanonLs.canon (cs := [_, _])⟩
def MCmd.wt (x : MCmd) : Nat := (wtS x.Task) + (wtL wtS x.Acts)
def MCmd.Bd (N : Nat) (x : MCmd) : Prop := (bdS N x.Task) ∧ (bdL N (bdS N) x.Acts)
theorem MCmd.bd_wt {N M : Nat} {x : MCmd} (h : x.Bd M) (hw : x.wt ≤ N) : x.Bd N := ⟨(show bdS N (x.Task) from (by simp only [MCmd.wt] at hw; omega : wtS (x.Task) ≤ N)), bdL_wt (w := wtS) h.2 (by simp only [MCmd.wt] at hw; omega : wtL wtS (x.Acts) ≤ N) (fun y h hw => (show bdS N (y) from (hw : wtS (y) ≤ N)))⟩
theorem MCmd.of_wt : ∀ (n : Nat) (cs : List Cell), WT Γ0 n 199 cs → ∃ x : MCmd, cs = x.enc ∧ x.Bd maxLen := by
  intro n cs h
  obtain ⟨n, rfl⟩ := WT_succ h
  have h := WT_struct h (by kernel_rfl : Γ0.ty 199 = some ty199) rfl
  simp only [List.map_cons, List.map_nil, WTs] at h
  obtain ⟨a0, b0, e0, h0, a1, b1, e1, h1, e2⟩ := h
  obtain ⟨x0, f0, g0⟩ := WT_str h0 (by kernel_rfl : Γ0.ty 9 = some ty9) rfl
  obtain ⟨x1, f1, g1⟩ := WT_slice (e0 := eStr) (b := (bdS maxLen)) h1 (by kernel_rfl : Γ0.ty 44 = some ty44) rfl (by kernel_rfl : Γ0.ty 9 = some ty9) (fun n r h => WT_str h (by kernel_rfl : Γ0.ty 9 = some ty9) rfl)
  refine ⟨⟨x0, x1⟩, ?_, ⟨g0, g1⟩⟩
  subst f0 f1
  rw [e0, e1, e2]
  rfl
structure MFile where
  Path : Str
  Text : Str
deriving DecidableEq
def MFile.enc (x : MFile) : List Cell := [Cell.str (bs x.Path), Cell.str (bs x.Text)]
instance : CanonE MFile.enc := ⟨fun _ => CanonLs.canon (cs := [_, _])⟩
def MFile.wt (x : MFile) : Nat := (wtS x.Path) + (wtS x.Text)
def MFile.Bd (N : Nat) (x : MFile) : Prop := (bdS N x.Path) ∧ (bdS N x.Text)
theorem MFile.bd_wt {N M : Nat} {x : MFile} (h : x.Bd M) (hw : x.wt ≤ N) : x.Bd N := ⟨(show bdS N (x.Path) from (by simp only [MFile.wt] at hw; omega : wtS (x.Path) ≤ N)), (show bdS N (x.Text) from (by simp only [MFile.wt] at hw; omega : wtS (x.Text) ≤ N))⟩
theorem MFile.of_wt : ∀ (n : Nat) (cs : List Cell), WT Γ0 n 170 cs → ∃ x : MFile, cs = x.enc ∧ x.Bd maxLen := by
  intro n cs h
  obtain ⟨n, rfl⟩ := WT_succ h
  have h := WT_struct h (by kernel_rfl : Γ0.ty 170 = some ty170) rfl
  simp only [List.map_cons, List.map_nil, WTs] at h
  obtain ⟨a0, b0, e0, h0, a1, b1, e1, h1, e2⟩ := h
  obtain ⟨x0, f0, g0⟩ := WT_str h0 (by kernel_rfl : Γ0.ty 9 = some ty9) rfl
  obtain ⟨x1, f1, g1⟩ := WT_str h1 (by kernel_rfl : Γ0.ty 9 = some ty9) rfl
  refine ⟨⟨x0, x1⟩, ?_, ⟨g0, g1⟩⟩
  subst f0 f1
  rw [e0, e1, e2]
  rfl
structure MMade where
  Task : Str
  Outs : List MFile
  Log : Str
deriving DecidableEq
def MMade.enc (x : MMade) : List Cell := [Cell.str (bs x.Task), encL 2 MFile.enc x.Outs, Cell.str (bs x.Log)]
instance : CanonE MMade.enc := ⟨fun _ => CanonLs.canon (cs := [_, _, _])⟩
def MMade.wt (x : MMade) : Nat := (wtS x.Task) + (wtL MFile.wt x.Outs) + (wtS x.Log)
def MMade.Bd (N : Nat) (x : MMade) : Prop := (bdS N x.Task) ∧ (bdL N (MFile.Bd N) x.Outs) ∧ (bdS N x.Log)
theorem MMade.bd_wt {N M : Nat} {x : MMade} (h : x.Bd M) (hw : x.wt ≤ N) : x.Bd N := ⟨(show bdS N (x.Task) from (by simp only [MMade.wt] at hw; omega : wtS (x.Task) ≤ N)), bdL_wt (w := MFile.wt) h.2.1 (by simp only [MMade.wt] at hw; omega : wtL MFile.wt (x.Outs) ≤ N) (fun y h hw => MFile.bd_wt h (hw : MFile.wt (y) ≤ N)), (show bdS N (x.Log) from (by simp only [MMade.wt] at hw; omega : wtS (x.Log) ≤ N))⟩
theorem MMade.of_wt : ∀ (n : Nat) (cs : List Cell), WT Γ0 n 33 cs → ∃ x : MMade, cs = x.enc ∧ x.Bd maxLen := by
  intro n cs h
  obtain ⟨n, rfl⟩ := WT_succ h
  have h := WT_struct h (by kernel_rfl : Γ0.ty 33 = some ty33) rfl
  simp only [List.map_cons, List.map_nil, WTs] at h
  obtain ⟨a0, b0, e0, h0, a1, b1, e1, h1, a2, b2, e2, h2, e3⟩ := h
  obtain ⟨x0, f0, g0⟩ := WT_str h0 (by kernel_rfl : Γ0.ty 9 = some ty9) rfl
  obtain ⟨x1, f1, g1⟩ := WT_slice (e0 := MFile.enc) (b := (MFile.Bd maxLen)) h1 (by kernel_rfl : Γ0.ty 31 = some ty31) rfl (by kernel_rfl : Γ0.ty 170 = some ty170) (fun n r h => MFile.of_wt _ _ h)
  obtain ⟨x2, f2, g2⟩ := WT_str h2 (by kernel_rfl : Γ0.ty 9 = some ty9) rfl
  refine ⟨⟨x0, x1, x2⟩, ?_, ⟨g0, g1, g2⟩⟩
  subst f0 f1 f2
  rw [e0, e1, e2, e3]
  rfl
structure MNeed where
  Name : Str
  Range : Str
deriving DecidableEq
def MNeed.enc (x : MNeed) : List Cell := [Cell.str (bs x.Name), Cell.str (bs x.Range)]
instance : CanonE MNeed.enc := ⟨fun _ => CanonLs.canon (cs := [_, _])⟩
def MNeed.wt (x : MNeed) : Nat := (wtS x.Name) + (wtS x.Range)
def MNeed.Bd (N : Nat) (x : MNeed) : Prop := (bdS N x.Name) ∧ (bdS N x.Range)
theorem MNeed.bd_wt {N M : Nat} {x : MNeed} (h : x.Bd M) (hw : x.wt ≤ N) : x.Bd N := ⟨(show bdS N (x.Name) from (by simp only [MNeed.wt] at hw; omega : wtS (x.Name) ≤ N)), (show bdS N (x.Range) from (by simp only [MNeed.wt] at hw; omega : wtS (x.Range) ≤ N))⟩
theorem MNeed.of_wt : ∀ (n : Nat) (cs : List Cell), WT Γ0 n 197 cs → ∃ x : MNeed, cs = x.enc ∧ x.Bd maxLen := by
  intro n cs h
  obtain ⟨n, rfl⟩ := WT_succ h
  have h := WT_struct h (by kernel_rfl : Γ0.ty 197 = some ty197) rfl
  simp only [List.map_cons, List.map_nil, WTs] at h
  obtain ⟨a0, b0, e0, h0, a1, b1, e1, h1, e2⟩ := h
  obtain ⟨x0, f0, g0⟩ := WT_str h0 (by kernel_rfl : Γ0.ty 9 = some ty9) rfl
  obtain ⟨x1, f1, g1⟩ := WT_str h1 (by kernel_rfl : Γ0.ty 9 = some ty9) rfl
  refine ⟨⟨x0, x1⟩, ?_, ⟨g0, g1⟩⟩
  subst f0 f1
  rw [e0, e1, e2]
  rfl
structure MPack where
  Name : Str
  Uses : List Str
  Needs : List MNeed
  Cmds : List MCmd
deriving DecidableEq
def MPack.enc (x : MPack) : List Cell := [Cell.str (bs x.Name), encL 1 eStr x.Uses, encL 2 MNeed.enc x.Needs, encL 2 MCmd.enc x.Cmds]
instance : CanonE MPack.enc := ⟨fun _ => CanonLs.canon (cs := [_, _, _, _])⟩
def MPack.wt (x : MPack) : Nat := (wtS x.Name) + (wtL wtS x.Uses) + (wtL MNeed.wt x.Needs) + (wtL MCmd.wt x.Cmds)
def MPack.Bd (N : Nat) (x : MPack) : Prop := (bdS N x.Name) ∧ (bdL N (bdS N) x.Uses) ∧ (bdL N (MNeed.Bd N) x.Needs) ∧ (bdL N (MCmd.Bd N) x.Cmds)
theorem MPack.bd_wt {N M : Nat} {x : MPack} (h : x.Bd M) (hw : x.wt ≤ N) : x.Bd N := ⟨(show bdS N (x.Name) from (by simp only [MPack.wt] at hw; omega : wtS (x.Name) ≤ N)), bdL_wt (w := wtS) h.2.1 (by simp only [MPack.wt] at hw; omega : wtL wtS (x.Uses) ≤ N) (fun y h hw => (show bdS N (y) from (hw : wtS (y) ≤ N))), bdL_wt (w := MNeed.wt) h.2.2.1 (by simp only [MPack.wt] at hw; omega : wtL MNeed.wt (x.Needs) ≤ N) (fun y h hw => MNeed.bd_wt h (hw : MNeed.wt (y) ≤ N)), bdL_wt (w := MCmd.wt) h.2.2.2 (by simp only [MPack.wt] at hw; omega : wtL MCmd.wt (x.Cmds) ≤ N) (fun y h hw => MCmd.bd_wt h (hw : MCmd.wt (y) ≤ N))⟩
theorem MPack.of_wt : ∀ (n : Nat) (cs : List Cell), WT Γ0 n 154 cs → ∃ x : MPack, cs = x.enc ∧ x.Bd maxLen := by
  intro n cs h
  obtain ⟨n, rfl⟩ := WT_succ h
  have h := WT_struct h (by kernel_rfl : Γ0.ty 154 = some ty154) rfl
  simp only [List.map_cons, List.map_nil, WTs] at h
  obtain ⟨a0, b0, e0, h0, a1, b1, e1, h1, a2, b2, e2, h2, a3, b3, e3, h3, e4⟩ := h
  obtain ⟨x0, f0, g0⟩ := WT_str h0 (by kernel_rfl : Γ0.ty 9 = some ty9) rfl
  obtain ⟨x1, f1, g1⟩ := WT_slice (e0 := eStr) (b := (bdS maxLen)) h1 (by kernel_rfl : Γ0.ty 44 = some ty44) rfl (by kernel_rfl : Γ0.ty 9 = some ty9) (fun n r h => WT_str h (by kernel_rfl : Γ0.ty 9 = some ty9) rfl)
  obtain ⟨x2, f2, g2⟩ := WT_slice (e0 := MNeed.enc) (b := (MNeed.Bd maxLen)) h2 (by kernel_rfl : Γ0.ty 151 = some ty151) rfl (by kernel_rfl : Γ0.ty 197 = some ty197) (fun n r h => MNeed.of_wt _ _ h)
  obtain ⟨x3, f3, g3⟩ := WT_slice (e0 := MCmd.enc) (b := (MCmd.Bd maxLen)) h3 (by kernel_rfl : Γ0.ty 152 = some ty152) rfl (by kernel_rfl : Γ0.ty 199 = some ty199) (fun n r h => MCmd.of_wt _ _ h)
  refine ⟨⟨x0, x1, x2, x3⟩, ?_, ⟨g0, g1, g2, g3⟩⟩
  subst f0 f1 f2 f3
  rw [e0, e1, e2, e3, e4]
  rfl
structure MVer where
  A : Int
  B : Int
  C : Int
  Pre : List Str
deriving DecidableEq
def MVer.enc (x : MVer) : List Cell := [Cell.int x.A, Cell.int x.B, Cell.int x.C, encL 1 eStr x.Pre]
instance : CanonE MVer.enc := ⟨fun _ => CanonLs.canon (cs := [_, _, _, _])⟩
def MVer.wt (x : MVer) : Nat := (wtL wtS x.Pre)
def MVer.Bd (N : Nat) (x : MVer) : Prop := (bdI x.A) ∧ (bdI x.B) ∧ (bdI x.C) ∧ (bdL N (bdS N) x.Pre)
theorem MVer.bd_wt {N M : Nat} {x : MVer} (h : x.Bd M) (hw : x.wt ≤ N) : x.Bd N := ⟨h.1, h.2.1, h.2.2.1, bdL_wt (w := wtS) h.2.2.2 (by simp only [MVer.wt] at hw; omega : wtL wtS (x.Pre) ≤ N) (fun y h hw => (show bdS N (y) from (hw : wtS (y) ≤ N)))⟩
theorem MVer.of_wt : ∀ (n : Nat) (cs : List Cell), WT Γ0 n 136 cs → ∃ x : MVer, cs = x.enc ∧ x.Bd maxLen := by
  intro n cs h
  obtain ⟨n, rfl⟩ := WT_succ h
  have h := WT_struct h (by kernel_rfl : Γ0.ty 136 = some ty136) rfl
  simp only [List.map_cons, List.map_nil, WTs] at h
  obtain ⟨a0, b0, e0, h0, a1, b1, e1, h1, a2, b2, e2, h2, a3, b3, e3, h3, e4⟩ := h
  obtain ⟨x0, f0, g0⟩ := WT_int h0 (by kernel_rfl : Γ0.ty 3 = some ty3) rfl
  obtain ⟨x1, f1, g1⟩ := WT_int h1 (by kernel_rfl : Γ0.ty 3 = some ty3) rfl
  obtain ⟨x2, f2, g2⟩ := WT_int h2 (by kernel_rfl : Γ0.ty 3 = some ty3) rfl
  obtain ⟨x3, f3, g3⟩ := WT_slice (e0 := eStr) (b := (bdS maxLen)) h3 (by kernel_rfl : Γ0.ty 44 = some ty44) rfl (by kernel_rfl : Γ0.ty 9 = some ty9) (fun n r h => WT_str h (by kernel_rfl : Γ0.ty 9 = some ty9) rfl)
  refine ⟨⟨x0, x1, x2, x3⟩, ?_, ⟨g0, g1, g2, g3⟩⟩
  subst f0 f1 f2 f3
  rw [e0, e1, e2, e3, e4]
  rfl
structure MPick where
  Name : Str
  V : MVer
deriving DecidableEq
def MPick.enc (x : MPick) : List Cell := [Cell.str (bs x.Name), Cell.int x.V.A, Cell.int x.V.B, Cell.int x.V.C, encL 1 eStr x.V.Pre]
instance : CanonE MPick.enc := ⟨fun _ => CanonLs.canon (cs := [_, _, _, _, _])⟩
def MPick.wt (x : MPick) : Nat := (wtS x.Name) + (MVer.wt x.V)
def MPick.Bd (N : Nat) (x : MPick) : Prop := (bdS N x.Name) ∧ (MVer.Bd N x.V)
theorem MPick.bd_wt {N M : Nat} {x : MPick} (h : x.Bd M) (hw : x.wt ≤ N) : x.Bd N := ⟨(show bdS N (x.Name) from (by simp only [MPick.wt] at hw; omega : wtS (x.Name) ≤ N)), MVer.bd_wt h.2 (by simp only [MPick.wt] at hw; omega : MVer.wt (x.V) ≤ N)⟩
theorem MPick.of_wt : ∀ (n : Nat) (cs : List Cell), WT Γ0 n 138 cs → ∃ x : MPick, cs = x.enc ∧ x.Bd maxLen := by
  intro n cs h
  obtain ⟨n, rfl⟩ := WT_succ h
  have h := WT_struct h (by kernel_rfl : Γ0.ty 138 = some ty138) rfl
  simp only [List.map_cons, List.map_nil, WTs] at h
  obtain ⟨a0, b0, e0, h0, a1, b1, e1, h1, e2⟩ := h
  obtain ⟨x0, f0, g0⟩ := WT_str h0 (by kernel_rfl : Γ0.ty 9 = some ty9) rfl
  obtain ⟨x1, f1, g1⟩ := MVer.of_wt _ _ h1
  refine ⟨⟨x0, x1⟩, ?_, ⟨g0, g1⟩⟩
  subst f0 f1
  rw [e0, e1, e2]
  rfl
structure MPlan where
  Tasks : List Str
  Deps : List (List Str)
deriving DecidableEq
def MPlan.enc (x : MPlan) : List Cell := [encL 1 eStr x.Tasks, encL 1 eStrs x.Deps]
instance : CanonE MPlan.enc := ⟨fun _ => CanonLs.canon (cs := [_, _])⟩
def MPlan.wt (x : MPlan) : Nat := (wtL wtS x.Tasks) + (wtL (wtL wtS) x.Deps)
def MPlan.Bd (N : Nat) (x : MPlan) : Prop := (bdL N (bdS N) x.Tasks) ∧ (bdL N (bdL N (bdS N)) x.Deps)
theorem MPlan.bd_wt {N M : Nat} {x : MPlan} (h : x.Bd M) (hw : x.wt ≤ N) : x.Bd N := ⟨bdL_wt (w := wtS) h.1 (by simp only [MPlan.wt] at hw; omega : wtL wtS (x.Tasks) ≤ N) (fun y h hw => (show bdS N (y) from (hw : wtS (y) ≤ N))), bdL_wt (w := (wtL wtS)) h.2 (by simp only [MPlan.wt] at hw; omega : wtL (wtL wtS) (x.Deps) ≤ N) (fun y h hw => bdL_wt (w := wtS) h (hw : wtL wtS (y) ≤ N) (fun y h hw => (show bdS N (y) from (hw : wtS (y) ≤ N))))⟩
theorem MPlan.of_wt : ∀ (n : Nat) (cs : List Cell), WT Γ0 n 47 cs → ∃ x : MPlan, cs = x.enc ∧ x.Bd maxLen := by
  intro n cs h
  obtain ⟨n, rfl⟩ := WT_succ h
  have h := WT_struct h (by kernel_rfl : Γ0.ty 47 = some ty47) rfl
  simp only [List.map_cons, List.map_nil, WTs] at h
  obtain ⟨a0, b0, e0, h0, a1, b1, e1, h1, e2⟩ := h
  obtain ⟨x0, f0, g0⟩ := WT_slice (e0 := eStr) (b := (bdS maxLen)) h0 (by kernel_rfl : Γ0.ty 44 = some ty44) rfl (by kernel_rfl : Γ0.ty 9 = some ty9) (fun n r h => WT_str h (by kernel_rfl : Γ0.ty 9 = some ty9) rfl)
  obtain ⟨x1, f1, g1⟩ := WT_slice (e0 := eStrs) (b := (bdL maxLen (bdS maxLen))) h1 (by kernel_rfl : Γ0.ty 45 = some ty45) rfl (by kernel_rfl : Γ0.ty 44 = some ty44) (fun n r h => WT_slice (e0 := eStr) (b := (bdS maxLen)) h (by kernel_rfl : Γ0.ty 44 = some ty44) rfl (by kernel_rfl : Γ0.ty 9 = some ty9) (fun n r h => WT_str h (by kernel_rfl : Γ0.ty 9 = some ty9) rfl))
  refine ⟨⟨x0, x1⟩, ?_, ⟨g0, g1⟩⟩
  subst f0 f1
  rw [e0, e1, e2]
  rfl
structure MRule where
  Task : Str
  On : List Str
  Ins : List Str
  Envs : List Str
  Keep : Bool
deriving DecidableEq
def MRule.enc (x : MRule) : List Cell := [Cell.str (bs x.Task), encL 1 eStr x.On, encL 1 eStr x.Ins, encL 1 eStr x.Envs, Cell.bool x.Keep]
instance : CanonE MRule.enc := ⟨fun _ => CanonLs.canon (cs := [_, _, _, _, _])⟩
def MRule.wt (x : MRule) : Nat := (wtS x.Task) + (wtL wtS x.On) + (wtL wtS x.Ins) + (wtL wtS x.Envs)
def MRule.Bd (N : Nat) (x : MRule) : Prop := (bdS N x.Task) ∧ (bdL N (bdS N) x.On) ∧ (bdL N (bdS N) x.Ins) ∧ (bdL N (bdS N) x.Envs) ∧ (True)
theorem MRule.bd_wt {N M : Nat} {x : MRule} (h : x.Bd M) (hw : x.wt ≤ N) : x.Bd N := ⟨(show bdS N (x.Task) from (by simp only [MRule.wt] at hw; omega : wtS (x.Task) ≤ N)), bdL_wt (w := wtS) h.2.1 (by simp only [MRule.wt] at hw; omega : wtL wtS (x.On) ≤ N) (fun y h hw => (show bdS N (y) from (hw : wtS (y) ≤ N))), bdL_wt (w := wtS) h.2.2.1 (by simp only [MRule.wt] at hw; omega : wtL wtS (x.Ins) ≤ N) (fun y h hw => (show bdS N (y) from (hw : wtS (y) ≤ N))), bdL_wt (w := wtS) h.2.2.2.1 (by simp only [MRule.wt] at hw; omega : wtL wtS (x.Envs) ≤ N) (fun y h hw => (show bdS N (y) from (hw : wtS (y) ≤ N))), h.2.2.2.2⟩
theorem MRule.of_wt : ∀ (n : Nat) (cs : List Cell), WT Γ0 n 83 cs → ∃ x : MRule, cs = x.enc ∧ x.Bd maxLen := by
  intro n cs h
  obtain ⟨n, rfl⟩ := WT_succ h
  have h := WT_struct h (by kernel_rfl : Γ0.ty 83 = some ty83) rfl
  simp only [List.map_cons, List.map_nil, WTs] at h
  obtain ⟨a0, b0, e0, h0, a1, b1, e1, h1, a2, b2, e2, h2, a3, b3, e3, h3, a4, b4, e4, h4, e5⟩ := h
  obtain ⟨x0, f0, g0⟩ := WT_str h0 (by kernel_rfl : Γ0.ty 9 = some ty9) rfl
  obtain ⟨x1, f1, g1⟩ := WT_slice (e0 := eStr) (b := (bdS maxLen)) h1 (by kernel_rfl : Γ0.ty 44 = some ty44) rfl (by kernel_rfl : Γ0.ty 9 = some ty9) (fun n r h => WT_str h (by kernel_rfl : Γ0.ty 9 = some ty9) rfl)
  obtain ⟨x2, f2, g2⟩ := WT_slice (e0 := eStr) (b := (bdS maxLen)) h2 (by kernel_rfl : Γ0.ty 44 = some ty44) rfl (by kernel_rfl : Γ0.ty 9 = some ty9) (fun n r h => WT_str h (by kernel_rfl : Γ0.ty 9 = some ty9) rfl)
  obtain ⟨x3, f3, g3⟩ := WT_slice (e0 := eStr) (b := (bdS maxLen)) h3 (by kernel_rfl : Γ0.ty 44 = some ty44) rfl (by kernel_rfl : Γ0.ty 9 = some ty9) (fun n r h => WT_str h (by kernel_rfl : Γ0.ty 9 = some ty9) rfl)
  obtain ⟨x4, f4, g4⟩ := WT_bool h4 (by kernel_rfl : Γ0.ty 4 = some ty4) rfl
  refine ⟨⟨x0, x1, x2, x3, x4⟩, ?_, ⟨g0, g1, g2, g3, g4⟩⟩
  subst f0 f1 f2 f3 f4
  rw [e0, e1, e2, e3, e4, e5]
  rfl
structure MSlot where
  Key : Str
  B : Str
deriving DecidableEq
def MSlot.enc (x : MSlot) : List Cell := [bytesC x.Key, bytesC x.B]
instance : CanonE MSlot.enc := ⟨fun _ => CanonLs.canon (cs := [_, _])⟩
def MSlot.wt (x : MSlot) : Nat := (wtS x.Key) + (wtS x.B)
def MSlot.Bd (N : Nat) (x : MSlot) : Prop := (bdS N x.Key) ∧ (bdS N x.B)
theorem MSlot.bd_wt {N M : Nat} {x : MSlot} (h : x.Bd M) (hw : x.wt ≤ N) : x.Bd N := ⟨(show bdS N (x.Key) from (by simp only [MSlot.wt] at hw; omega : wtS (x.Key) ≤ N)), (show bdS N (x.B) from (by simp only [MSlot.wt] at hw; omega : wtS (x.B) ≤ N))⟩
theorem MSlot.of_wt : ∀ (n : Nat) (cs : List Cell), WT Γ0 n 111 cs → ∃ x : MSlot, cs = x.enc ∧ x.Bd maxLen := by
  intro n cs h
  obtain ⟨n, rfl⟩ := WT_succ h
  have h := WT_struct h (by kernel_rfl : Γ0.ty 111 = some ty111) rfl
  simp only [List.map_cons, List.map_nil, WTs] at h
  obtain ⟨a0, b0, e0, h0, a1, b1, e1, h1, e2⟩ := h
  obtain ⟨x0, f0, g0⟩ := WT_bytes h0 (by kernel_rfl : Γ0.ty 109 = some ty109) rfl (by kernel_rfl : Γ0.ty 5 = some ty5) rfl rfl
  obtain ⟨x1, f1, g1⟩ := WT_bytes h1 (by kernel_rfl : Γ0.ty 109 = some ty109) rfl (by kernel_rfl : Γ0.ty 5 = some ty5) rfl rfl
  refine ⟨⟨x0, x1⟩, ?_, ⟨g0, g1⟩⟩
  subst f0 f1
  rw [e0, e1, e2]
  rfl
end Go.Ev
