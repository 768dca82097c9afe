/- The values that the laws speak of, as Lean has them, and how they lie in cells. Conditions: none. -/
import Derived.Test.YtkpiaalieeacgaaEvLib
import Derived.Test.YtkpiaalieeacgaaEvPr
import Derived.Test.YtkpiaalieeacgaaEvMem
set_option linter.unusedSimpArgs false
set_option linter.unusedVariables false
namespace Go.Ev
open Go
noncomputable def Γ0 : Ctx := ctx tyTab fiTab []
structure MCmd where
  Task : Str
  Acts : List Str
deriving DecidableEq
def MCmd.enc (x : MCmd) : List Cell := [Cell.str (bs x.Task), encL 1 eStr x.Acts]
instance : CanonE MCmd.enc := ⟨fun _ => CanonLs.canon (cs := [_, _])⟩
def MCmd.wt (x : MCmd) : Nat := (wtS x.Task) + (wtL wtS x.Acts)
def MCmd.Bd (N : Nat) (x : MCmd) : Prop := (bdS N x.Task) ∧ (bdL N (bdS N) x.Acts)
theorem MCmd.bd_wt {N M : Nat} {x : MCmd} (h : x.Bd M) (hw : x.wt ≤ N) : x.Bd N := ⟨(show bdS N (x.Task) from (by simp only [MCmd.wt] at hw; omega : wtS (x.Task) ≤ N)), bdL_wt (w := wtS) h.2 (by simp only [MCmd.wt] at hw; omega : wtL wtS (x.Acts) ≤ N) (fun y h hw => (show bdS N (y) from (hw : wtS (y) ≤ N)))⟩
theorem MCmd.of_wt : ∀ (n : Nat) (cs : List Cell), WT Γ0 n 199 cs → ∃ x : MCmd, cs = x.enc ∧ x.Bd maxLen := by
  intro n cs h
  obtain ⟨n, rfl⟩ := WT_succ h
  have h := WT_struct h (by kernel_rfl : Γ0.ty 199 = some ty199) rfl
  simp only [List.map_cons, List.map_nil, WTs] at h
  obtain ⟨a0, b0, e0, h0, a1, b1, e1, h1, e2⟩ := h
  obtain ⟨x0, f0, g0⟩ := WT_str h0 (by kernel_rfl : Γ0.ty 9 = some ty9) rfl
  obtain ⟨x1, f1, g1⟩ := WT_slice (e0 := eStr) (b := (bdS maxLen)) h1 (by kernel_rfl : Γ0.ty 44 = some ty44) rfl (by kernel_rfl : Γ0.ty 9 = some ty9) (fun n r h => WT_str h (by kernel_rfl : Γ0.ty 9 = some ty9) rfl)
  refine ⟨⟨x0, x1⟩, ?_, ⟨g0, g1⟩⟩
  subst f0 f1
  rw [e0, e1, e2]
  rfl
def MCmd.tr (x : MCmd) : List Tr := [.leaf (.string (bs x.Task)), trL 1 trStr x.Acts]
instance : TrE MCmd.tr MCmd.enc := ⟨fun x => by simp only [MCmd.tr, MCmd.enc, List.map_cons, List.map_nil, leaf_cell, trL_cell]⟩
def MCmd.mkR (x : MCmd) (k : Nat) : MCmd := ⟨markB k, mkL mkStr one1 x.Acts (k + 1)⟩
def MCmd.cntR (x : MCmd) : Nat := ((0 + 1) + cntL one1 x.Acts)
def MCmd.mkA (x : MCmd) (k : Nat) : MCmd := ⟨x.Task, mkL mkStr one1 x.Acts k⟩
def MCmd.cntA (x : MCmd) : Nat := (0 + cntL one1 x.Acts)
theorem MCmd.cntR_le (x : MCmd) : x.cntR ≤ 8 + 8 * x.wt := by
  have g1 := (cntL_le (w := wtS) one1_le (x.Acts))
  simp only [MCmd.cntR, MCmd.wt] <;> omega
theorem MCmd.cntA_le (x : MCmd) : x.cntA ≤ 8 * x.wt := by
  have g1 := (cntL_le (w := wtS) one1_le (x.Acts))
  simp only [MCmd.cntA, MCmd.wt] <;> omega
theorem MCmd.open {H : List Entry} {w q : Bool} {n : Nat} {ids : List Nat} {cs : List Cell} {x : MCmd} (h0 : Sp (Rep H w q n) ids cs x.tr) : ∃ c1, cs = [Cell.str (bs x.Task), c1] := by
  simp only [MCmd.tr] at h0
  obtain ⟨cs, rfl, h1⟩ := Sp.leaf_inv h0
  obtain ⟨c1, cs, rfl, _, h2⟩ := Sp.list_inv h1
  obtain ⟨_, rfl⟩ := h2.nil_inv
  exact ⟨c1, rfl⟩
structure MFile where
  Path : Str
  Text : Str
deriving DecidableEq
def MFile.enc (x : MFile) : List Cell := [Cell.str (bs x.Path), Cell.str (bs x.Text)]
instance : CanonE MFile.enc := ⟨fun _ => CanonLs.canon (cs := [_, _])⟩
def MFile.wt (x : MFile) : Nat := (wtS x.Path) + (wtS x.Text)
def MFile.Bd (N : Nat) (x : MFile) : Prop := (bdS N x.Path) ∧ (bdS N x.Text)
theorem MFile.bd_wt {N M : Nat} {x : MFile} (h : x.Bd M) (hw : x.wt ≤ N) : x.Bd N := ⟨(show bdS N (x.Path) from (by simp only [MFile.wt] at hw; omega : wtS (x.Path) ≤ N)), (show bdS N (x.Text) from (by simp only [MFile.wt] at hw; omega : wtS (x.Text) ≤ N))⟩
theorem MFile.of_wt : ∀ (n : Nat) (cs : List Cell), WT Γ0 n 170 cs → ∃ x : MFile, cs = x.enc ∧ x.Bd maxLen := by
  intro n cs h
  obtain ⟨n, rfl⟩ := WT_succ h
  have h := WT_struct h (by kernel_rfl : Γ0.ty 170 = some ty170) rfl
  simp only [List.map_cons, List.map_nil, WTs] at h
  obtain ⟨a0, b0, e0, h0, a1, b1, e1, h1, e2⟩ := h
  obtain ⟨x0, f0, g0⟩ := WT_str h0 (by kernel_rfl : Γ0.ty 9 = some ty9) rfl
  obtain ⟨x1, f1, g1⟩ := WT_str h1 (by kernel_rfl : Γ0.ty 9 = some ty9) rfl
  refine ⟨⟨x0, x1⟩, ?_, ⟨g0, g1⟩⟩
  subst f0 f1
  rw [e0, e1, e2]
  rfl
def MFile.tr (x : MFile) : List Tr := [.leaf (.string (bs x.Path)), .leaf (.string (bs x.Text))]
instance : TrE MFile.tr MFile.enc := ⟨fun x => by simp only [MFile.tr, MFile.enc, List.map_cons, List.map_nil, leaf_cell, trL_cell]⟩
def MFile.mkR (x : MFile) (k : Nat) : MFile := ⟨markB k, markB (k + 1)⟩
def MFile.cntR (x : MFile) : Nat := ((0 + 1) + 1)
def MFile.mkA (x : MFile) (k : Nat) : MFile := ⟨x.Path, x.Text⟩
def MFile.cntA (x : MFile) : Nat := 0
theorem MFile.cntR_le (x : MFile) : x.cntR ≤ 8 + 8 * x.wt := by
  simp only [MFile.cntR, MFile.wt] <;> omega
theorem MFile.cntA_le (x : MFile) : x.cntA ≤ 8 * x.wt := by
  simp only [MFile.cntA, MFile.wt] <;> omega
theorem MFile.open {H : List Entry} {w q : Bool} {n : Nat} {ids : List Nat} {cs : List Cell} {x : MFile} (h0 : Sp (Rep H w q n) ids cs x.tr) : cs = [Cell.str (bs x.Path), Cell.str (bs x.Text)] := by
  simp only [MFile.tr] at h0
  obtain ⟨cs, rfl, h1⟩ := Sp.leaf_inv h0
  obtain ⟨cs, rfl, h2⟩ := Sp.leaf_inv h1
  obtain ⟨_, rfl⟩ := h2.nil_inv
  rfl
structure MMade where
  Task : Str
  Outs : List MFile
  Log : Str
deriving DecidableEq
def MMade.enc (x : MMade) : List Cell := [Cell.str (bs x.Task), encL 2 MFile.enc x.Outs, Cell.str (bs x.Log)]
instance : CanonE MMade.enc := ⟨fun _ => CanonLs.canon (cs := [_, _, _])⟩
def MMade.wt (x : MMade) : Nat := (wtS x.Task) + (wtL MFile.wt x.Outs) + (wtS x.Log)
def MMade.Bd (N : Nat) (x : MMade) : Prop := (bdS N x.Task) ∧ (bdL N (MFile.Bd N) x.Outs) ∧ (bdS N x.Log)
theorem MMade.bd_wt {N M : Nat} {x : MMade} (h : x.Bd M) (hw : x.wt ≤ N) : x.Bd N := ⟨(show bdS N (x.Task) from (by simp only [MMade.wt] at hw; omega : wtS (x.Task) ≤ N)), bdL_wt (w := MFile.wt) h.2.1 (by simp only [MMade.wt] at hw; omega : wtL MFile.wt (x.Outs) ≤ N) (fun y h hw => MFile.bd_wt h (hw : MFile.wt (y) ≤ N)), (show bdS N (x.Log) from (by simp only [MMade.wt] at hw; omega : wtS (x.Log) ≤ N))⟩
theorem MMade.of_wt : ∀ (n : Nat) (cs : List Cell), WT Γ0 n 33 cs → ∃ x : MMade, cs = x.enc ∧ x.Bd maxLen := by
  intro n cs h
  obtain ⟨n, rfl⟩ := WT_succ h
  have h := WT_struct h (by kernel_rfl : Γ0.ty 33 = some ty33) rfl
  simp only [List.map_cons, List.map_nil, WTs] at h
  obtain ⟨a0, b0, e0, h0, a1, b1, e1, h1, a2, b2, e2, h2, e3⟩ := h
  obtain ⟨x0, f0, g0⟩ := WT_str h0 (by kernel_rfl : Γ0.ty 9 = some ty9) rfl
  obtain ⟨x1, f1, g1⟩ := WT_slice (e0 := MFile.enc) (b := (MFile.Bd maxLen)) h1 (by kernel_rfl : Γ0.ty 31 = some ty31) rfl (by kernel_rfl : Γ0.ty 170 = some ty170) (fun n r h => MFile.of_wt _ _ h)
  obtain ⟨x2, f2, g2⟩ := WT_str h2 (by kernel_rfl : Γ0.ty 9 = some ty9) rfl
  refine ⟨⟨x0, x1, x2⟩, ?_, ⟨g0, g1, g2⟩⟩
  subst f0 f1 f2
  rw [e0, e1, e2, e3]
  rfl
def MMade.tr (x : MMade) : List Tr := [.leaf (.string (bs x.Task)), trL 2 MFile.tr x.Outs, .leaf (.string (bs x.Log))]
instance : TrE MMade.tr MMade.enc := ⟨fun x => by simp only [MMade.tr, MMade.enc, List.map_cons, List.map_nil, leaf_cell, trL_cell]⟩
def MMade.mkR (x : MMade) (k : Nat) : MMade := ⟨markB k, mkL MFile.mkR MFile.cntR x.Outs (k + 1), markB ((k + 1) + cntL MFile.cntR x.Outs)⟩
def MMade.cntR (x : MMade) : Nat := (((0 + 1) + cntL MFile.cntR x.Outs) + 1)
def MMade.mkA (x : MMade) (k : Nat) : MMade := ⟨x.Task, mkL MFile.mkR MFile.cntR x.Outs k, x.Log⟩
def MMade.cntA (x : MMade) : Nat := (0 + cntL MFile.cntR x.Outs)
theorem MMade.cntR_le (x : MMade) : x.cntR ≤ 8 + 8 * x.wt := by
  have g1 := (cntL_le (w := MFile.wt) MFile.cntR_le (x.Outs))
  simp only [MMade.cntR, MMade.wt] <;> omega
theorem MMade.cntA_le (x : MMade) : x.cntA ≤ 8 * x.wt := by
  have g1 := (cntL_le (w := MFile.wt) MFile.cntR_le (x.Outs))
  simp only [MMade.cntA, MMade.wt] <;> omega
theorem MMade.open {H : List Entry} {w q : Bool} {n : Nat} {ids : List Nat} {cs : List Cell} {x : MMade} (h0 : Sp (Rep H w q n) ids cs x.tr) : ∃ c1, cs = [Cell.str (bs x.Task), c1, Cell.str (bs x.Log)] := by
  simp only [MMade.tr] at h0
  obtain ⟨cs, rfl, h1⟩ := Sp.leaf_inv h0
  obtain ⟨c1, cs, rfl, _, h2⟩ := Sp.list_inv h1
  obtain ⟨cs, rfl, h3⟩ := Sp.leaf_inv h2
  obtain ⟨_, rfl⟩ := h3.nil_inv
  exact ⟨c1, rfl⟩
structure MNeed where
  Name : Str
  Range : Str
deriving DecidableEq
def MNeed.enc (x : MNeed) : List Cell := [Cell.str (bs x.Name), Cell.str (bs x.Range)]
instance : CanonE MNeed.enc := ⟨fun _ => CanonLs.canon (cs := [_, _])⟩
def MNeed.wt (x : MNeed) : Nat := (wtS x.Name) + (wtS x.Range)
def MNeed.Bd (N : Nat) (x : MNeed) : Prop := (bdS N x.Name) ∧ (bdS N x.Range)
theorem MNeed.bd_wt {N M : Nat} {x : MNeed} (h : x.Bd M) (hw : x.wt ≤ N) : x.Bd N := ⟨(show bdS N (x.Name) from (by simp only [MNeed.wt] at hw; omega : wtS (x.Name) ≤ N)), (show bdS N (x.Range) from (by simp only [MNeed.wt] at hw; omega : wtS (x.Range) ≤ N))⟩
theorem MNeed.of_wt : ∀ (n : Nat) (cs : List Cell), WT Γ0 n 197 cs → ∃ x : MNeed, cs = x.enc ∧ x.Bd maxLen := by
  intro n cs h
  obtain ⟨n, rfl⟩ := WT_succ h
  have h := WT_struct h (by kernel_rfl : Γ0.ty 197 = some ty197) rfl
  simp only [List.map_cons, List.map_nil, WTs] at h
  obtain ⟨a0, b0, e0, h0, a1, b1, e1, h1, e2⟩ := h
  obtain ⟨x0, f0, g0⟩ := WT_str h0 (by kernel_rfl : Γ0.ty 9 = some ty9) rfl
  obtain ⟨x1, f1, g1⟩ := WT_str h1 (by kernel_rfl : Γ0.ty 9 = some ty9) rfl
  refine ⟨⟨x0, x1⟩, ?_, ⟨g0, g1⟩⟩
  subst f0 f1
  rw [e0, e1, e2]
  rfl
def MNeed.tr (x : MNeed) : List Tr := [.leaf (.string (bs x.Name)), .leaf (.string (bs x.Range))]
instance : TrE MNeed.tr MNeed.enc := ⟨fun x => by simp only [MNeed.tr, MNeed.enc, List.map_cons, List.map_nil, leaf_cell, trL_cell]⟩
def MNeed.mkR (x : MNeed) (k : Nat) : MNeed := ⟨markB k, markB (k + 1)⟩
def MNeed.cntR (x : MNeed) : Nat := ((0 + 1) + 1)
def MNeed.mkA (x : MNeed) (k : Nat) : MNeed := ⟨x.Name, x.Range⟩
def MNeed.cntA (x : MNeed) : Nat := 0
theorem MNeed.cntR_le (x : MNeed) : x.cntR ≤ 8 + 8 * x.wt := by
  simp only [MNeed.cntR, MNeed.wt] <;> omega
theorem MNeed.cntA_le (x : MNeed) : x.cntA ≤ 8 * x.wt := by
  simp only [MNeed.cntA, MNeed.wt] <;> omega
theorem MNeed.open {H : List Entry} {w q : Bool} {n : Nat} {ids : List Nat} {cs : List Cell} {x : MNeed} (h0 : Sp (Rep H w q n) ids cs x.tr) : cs = [Cell.str (bs x.Name), Cell.str (bs x.Range)] := by
  simp only [MNeed.tr] at h0
  obtain ⟨cs, rfl, h1⟩ := Sp.leaf_inv h0
  obtain ⟨cs, rfl, h2⟩ := Sp.leaf_inv h1
  obtain ⟨_, rfl⟩ := h2.nil_inv
  rfl
structure MPack where
  Name : Str
  Uses : List Str
  Needs : List MNeed
  Cmds : List MCmd
deriving DecidableEq
def MPack.enc (x : MPack) : List Cell := [Cell.str (bs x.Name), encL 1 eStr x.Uses, encL 2 MNeed.enc x.Needs, encL 2 MCmd.enc x.Cmds]
instance : CanonE MPack.enc := ⟨fun _ => CanonLs.canon (cs := [_, _, _, _])⟩
def MPack.wt (x : MPack) : Nat := (wtS x.Name) + (wtL wtS x.Uses) + (wtL MNeed.wt x.Needs) + (wtL MCmd.wt x.Cmds)
def MPack.Bd (N : Nat) (x : MPack) : Prop := (bdS N x.Name) ∧ (bdL N (bdS N) x.Uses) ∧ (bdL N (MNeed.Bd N) x.Needs) ∧ (bdL N (MCmd.Bd N) x.Cmds)
theorem MPack.bd_wt {N M : Nat} {x : MPack} (h : x.Bd M) (hw : x.wt ≤ N) : x.Bd N := ⟨(show bdS N (x.Name) from (by simp only [MPack.wt] at hw; omega : wtS (x.Name) ≤ N)), bdL_wt (w := wtS) h.2.1 (by simp only [MPack.wt] at hw; omega : wtL wtS (x.Uses) ≤ N) (fun y h hw => (show bdS N (y) from (hw : wtS (y) ≤ N))), bdL_wt (w := MNeed.wt) h.2.2.1 (by simp only [MPack.wt] at hw; omega : wtL MNeed.wt (x.Needs) ≤ N) (fun y h hw => MNeed.bd_wt h (hw : MNeed.wt (y) ≤ N)), bdL_wt (w := MCmd.wt) h.2.2.2 (by simp only [MPack.wt] at hw; omega : wtL MCmd.wt (x.Cmds) ≤ N) (fun y h hw => MCmd.bd_wt h (hw : MCmd.wt (y) ≤ N))⟩
theorem MPack.of_wt : ∀ (n : Nat) (cs : List Cell), WT Γ0 n 154 cs → ∃ x : MPack, cs = x.enc ∧ x.Bd maxLen := by
  intro n cs h
  obtain ⟨n, rfl⟩ := WT_succ h
  have h := WT_struct h (by kernel_rfl : Γ0.ty 154 = some ty154) rfl
  simp only [List.map_cons, List.map_nil, WTs] at h
  obtain ⟨a0, b0, e0, h0, a1, b1, e1, h1, a2, b2, e2, h2, a3, b3, e3, h3, e4⟩ := h
  obtain ⟨x0, f0, g0⟩ := WT_str h0 (by kernel_rfl : Γ0.ty 9 = some ty9) rfl
  obtain ⟨x1, f1, g1⟩ := WT_slice (e0 := eStr) (b := (bdS maxLen)) h1 (by kernel_rfl : Γ0.ty 44 = some ty44) rfl (by kernel_rfl : Γ0.ty 9 = some ty9) (fun n r h => WT_str h (by kernel_rfl : Γ0.ty 9 = some ty9) rfl)
  obtain ⟨x2, f2, g2⟩ := WT_slice (e0 := MNeed.enc) (b := (MNeed.Bd maxLen)) h2 (by kernel_rfl : Γ0.ty 151 = some ty151) rfl (by kernel_rfl : Γ0.ty 197 = some ty197) (fun n r h => MNeed.of_wt _ _ h)
  obtain ⟨x3, f3, g3⟩ := WT_slice (e0 := MCmd.enc) (b := (MCmd.Bd maxLen)) h3 (by kernel_rfl : Γ0.ty 152 = some ty152) rfl (by kernel_rfl : Γ0.ty 199 = some ty199) (fun n r h => MCmd.of_wt _ _ h)
  refine ⟨⟨x0, x1, x2, x3⟩, ?_, ⟨g0, g1, g2, g3⟩⟩
  subst f0 f1 f2 f3
  rw [e0, e1, e2, e3, e4]
  rfl
def MPack.tr (x : MPack) : List Tr := [.leaf (.string (bs x.Name)), trL 1 trStr x.Uses, trL 2 MNeed.tr x.Needs, trL 2 MCmd.tr x.Cmds]
instance : TrE MPack.tr MPack.enc := ⟨fun x => by simp only [MPack.tr, MPack.enc, List.map_cons, List.map_nil, leaf_cell, trL_cell]⟩
def MPack.mkR (x : MPack) (k : Nat) : MPack := ⟨markB k, mkL mkStr one1 x.Uses (k + 1), mkL MNeed.mkR MNeed.cntR x.Needs ((k + 1) + cntL one1 x.Uses), mkL MCmd.mkR MCmd.cntR x.Cmds (((k + 1) + cntL one1 x.Uses) + cntL MNeed.cntR x.Needs)⟩
def MPack.cntR (x : MPack) : Nat := ((((0 + 1) + cntL one1 x.Uses) + cntL MNeed.cntR x.Needs) + cntL MCmd.cntR x.Cmds)
def MPack.mkA (x : MPack) (k : Nat) : MPack := ⟨x.Name, mkL mkStr one1 x.Uses k, mkL MNeed.mkR MNeed.cntR x.Needs (k + cntL one1 x.Uses), mkL MCmd.mkR MCmd.cntR x.Cmds ((k + cntL one1 x.Uses) + cntL MNeed.cntR x.Needs)⟩
def MPack.cntA (x : MPack) : Nat := (((0 + cntL one1 x.Uses) + cntL MNeed.cntR x.Needs) + cntL MCmd.cntR x.Cmds)
theorem MPack.cntR_le (x : MPack) : x.cntR ≤ 8 + 8 * x.wt := by
  have g1 := (cntL_le (w := wtS) one1_le (x.Uses))
  have g2 := (cntL_le (w := MNeed.wt) MNeed.cntR_le (x.Needs))
  have g3 := (cntL_le (w := MCmd.wt) MCmd.cntR_le (x.Cmds))
  simp only [MPack.cntR, MPack.wt] <;> omega
theorem MPack.cntA_le (x : MPack) : x.cntA ≤ 8 * x.wt := by
  have g1 := (cntL_le (w := wtS) one1_le (x.Uses))
  have g2 := (cntL_le (w := MNeed.wt) MNeed.cntR_le (x.Needs))
  have g3 := (cntL_le (w := MCmd.wt) MCmd.cntR_le (x.Cmds))
  simp only [MPack.cntA, MPack.wt] <;> omega
theorem MPack.open {H : List Entry} {w q : Bool} {n : Nat} {ids : List Nat} {cs : List Cell} {x : MPack} (h0 : Sp (Rep H w q n) ids cs x.tr) : ∃ c1 c2 c3, cs = [Cell.str (bs x.Name), c1, c2, c3] := by
  simp only [MPack.tr] at h0
  obtain ⟨cs, rfl, h1⟩ := Sp.leaf_inv h0
  obtain ⟨c1, cs, rfl, _, h2⟩ := Sp.list_inv h1
  obtain ⟨c2, cs, rfl, _, h3⟩ := Sp.list_inv h2
  obtain ⟨c3, cs, rfl, _, h4⟩ := Sp.list_inv h3
  obtain ⟨_, rfl⟩ := h4.nil_inv
  exact ⟨c1, c2, c3, rfl⟩
structure MVer where
  A : Int
  B : Int
  C : Int
  Pre : List Str
deriving DecidableEq
def MVer.enc (x : MVer) : List Cell := [Cell.int x.A, Cell.int x.B, Cell.int x.C, encL 1 eStr x.Pre]
instance : CanonE MVer.enc := ⟨fun _ => CanonLs.canon (cs := [_, _, _, _])⟩
def MVer.wt (x : MVer) : Nat := (wtL wtS x.Pre)
def MVer.Bd (N : Nat) (x : MVer) : Prop := (bdI x.A) ∧ (bdI x.B) ∧ (bdI x.C) ∧ (bdL N (bdS N) x.Pre)
theorem MVer.bd_wt {N M : Nat} {x : MVer} (h : x.Bd M) (hw : x.wt ≤ N) : x.Bd N := ⟨h.1, h.2.1, h.2.2.1, bdL_wt (w := wtS) h.2.2.2 (by simp only [MVer.wt] at hw; omega : wtL wtS (x.Pre) ≤ N) (fun y h hw => (show bdS N (y) from (hw : wtS (y) ≤ N)))⟩
theorem MVer.of_wt : ∀ (n : Nat) (cs : List Cell), WT Γ0 n 136 cs → ∃ x : MVer, cs = x.enc ∧ x.Bd maxLen := by
  intro n cs h
  obtain ⟨n, rfl⟩ := WT_succ h
  have h := WT_struct h (by kernel_rfl : Γ0.ty 136 = some ty136) rfl
  simp only [List.map_cons, List.map_nil, WTs] at h
  obtain ⟨a0, b0, e0, h0, a1, b1, e1, h1, a2, b2, e2, h2, a3, b3, e3, h3, e4⟩ := h
  obtain ⟨x0, f0, g0⟩ := WT_int h0 (by kernel_rfl : Γ0.ty 3 = some ty3) rfl
  obtain ⟨x1, f1, g1⟩ := WT_int h1 (by kernel_rfl : Γ0.ty 3 = some ty3) rfl
  obtain ⟨x2, f2, g2⟩ := WT_int h2 (by kernel_rfl : Γ0.ty 3 = some ty3) rfl
  obtain ⟨x3, f3, g3⟩ := WT_slice (e0 := eStr) (b := (bdS maxLen)) h3 (by kernel_rfl : Γ0.ty 44 = some ty44) rfl (by kernel_rfl : Γ0.ty 9 = some ty9) (fun n r h => WT_str h (by kernel_rfl : Γ0.ty 9 = some ty9) rfl)
  refine ⟨⟨x0, x1, x2, x3⟩, ?_, ⟨g0, g1, g2, g3⟩⟩
  subst f0 f1 f2 f3
  rw [e0, e1, e2, e3, e4]
  rfl
def MVer.tr (x : MVer) : List Tr := [.leaf (.int .i64 x.A), .leaf (.int .i64 x.B), .leaf (.int .i64 x.C), trL 1 trStr x.Pre]
instance : TrE MVer.tr MVer.enc := ⟨fun x => by simp only [MVer.tr, MVer.enc, List.map_cons, List.map_nil, leaf_cell, trL_cell]⟩
def MVer.mkR (x : MVer) (k : Nat) : MVer := ⟨((k : Nat) : Int), (((k + 1) : Nat) : Int), ((((k + 1) + 1) : Nat) : Int), mkL mkStr one1 x.Pre (((k + 1) + 1) + 1)⟩
def MVer.cntR (x : MVer) : Nat := ((((0 + 1) + 1) + 1) + cntL one1 x.Pre)
def MVer.mkA (x : MVer) (k : Nat) : MVer := ⟨x.A, x.B, x.C, mkL mkStr one1 x.Pre k⟩
def MVer.cntA (x : MVer) : Nat := (0 + cntL one1 x.Pre)
theorem MVer.cntR_le (x : MVer) : x.cntR ≤ 8 + 8 * x.wt := by
  have g3 := (cntL_le (w := wtS) one1_le (x.Pre))
  simp only [MVer.cntR, MVer.wt] <;> omega
theorem MVer.cntA_le (x : MVer) : x.cntA ≤ 8 * x.wt := by
  have g3 := (cntL_le (w := wtS) one1_le (x.Pre))
  simp only [MVer.cntA, MVer.wt] <;> omega
theorem MVer.open {H : List Entry} {w q : Bool} {n : Nat} {ids : List Nat} {cs : List Cell} {x : MVer} (h0 : Sp (Rep H w q n) ids cs x.tr) : ∃ c3, cs = [Cell.int x.A, Cell.int x.B, Cell.int x.C, c3] := by
  simp only [MVer.tr] at h0
  obtain ⟨cs, rfl, h1⟩ := Sp.leaf_inv h0
  obtain ⟨cs, rfl, h2⟩ := Sp.leaf_inv h1
  obtain ⟨cs, rfl, h3⟩ := Sp.leaf_inv h2
  obtain ⟨c3, cs, rfl, _, h4⟩ := Sp.list_inv h3
  obtain ⟨_, rfl⟩ := h4.nil_inv
  exact ⟨c3, rfl⟩
structure MPick where
  Name : Str
  V : MVer
deriving DecidableEq
def MPick.enc (x : MPick) : List Cell := [Cell.str (bs x.Name), Cell.int x.V.A, Cell.int x.V.B, Cell.int x.V.C, encL 1 eStr x.V.Pre]
instance : CanonE MPick.enc := ⟨fun _ => CanonLs.canon (cs := [_, _, _, _, _])⟩
def MPick.wt (x : MPick) : Nat := (wtS x.Name) + (MVer.wt x.V)
def MPick.Bd (N : Nat) (x : MPick) : Prop := (bdS N x.Name) ∧ (MVer.Bd N x.V)
theorem MPick.bd_wt {N M : Nat} {x : MPick} (h : x.Bd M) (hw : x.wt ≤ N) : x.Bd N := ⟨(show bdS N (x.Name) from (by simp only [MPick.wt] at hw; omega : wtS (x.Name) ≤ N)), MVer.bd_wt h.2 (by simp only [MPick.wt] at hw; omega : MVer.wt (x.V) ≤ N)⟩
theorem MPick.of_wt : ∀ (n : Nat) (cs : List Cell), WT Γ0 n 138 cs → ∃ x : MPick, cs = x.enc ∧ x.Bd maxLen := by
  intro n cs h
  obtain ⟨n, rfl⟩ := WT_succ h
  have h := WT_struct h (by kernel_rfl : Γ0.ty 138 = some ty138) rfl
  simp only [List.map_cons, List.map_nil, WTs] at h
  obtain ⟨a0, b0, e0, h0, a1, b1, e1, h1, e2⟩ := h
  obtain ⟨x0, f0, g0⟩ := WT_str h0 (by kernel_rfl : Γ0.ty 9 = some ty9) rfl
  obtain ⟨x1, f1, g1⟩ := MVer.of_wt _ _ h1
  refine ⟨⟨x0, x1⟩, ?_, ⟨g0, g1⟩⟩
  subst f0 f1
  rw [e0, e1, e2]
  rfl
def MPick.tr (x : MPick) : List Tr := [.leaf (.string (bs x.Name)), .leaf (.int .i64 x.V.A), .leaf (.int .i64 x.V.B), .leaf (.int .i64 x.V.C), trL 1 trStr x.V.Pre]
instance : TrE MPick.tr MPick.enc := ⟨fun x => by simp only [MPick.tr, MPick.enc, List.map_cons, List.map_nil, leaf_cell, trL_cell]⟩
def MPick.mkR (x : MPick) (k : Nat) : MPick := ⟨markB k, ⟨(((k + 1) : Nat) : Int), ((((k + 1) + 1) : Nat) : Int), (((((k + 1) + 1) + 1) : Nat) : Int), mkL mkStr one1 x.V.Pre ((((k + 1) + 1) + 1) + 1)⟩⟩
def MPick.cntR (x : MPick) : Nat := (((((0 + 1) + 1) + 1) + 1) + cntL one1 x.V.Pre)
def MPick.mkA (x : MPick) (k : Nat) : MPick := ⟨x.Name, ⟨x.V.A, x.V.B, x.V.C, mkL mkStr one1 x.V.Pre k⟩⟩
def MPick.cntA (x : MPick) : Nat := (0 + cntL one1 x.V.Pre)
theorem MPick.cntR_le (x : MPick) : x.cntR ≤ 8 + 8 * x.wt := by
  have g4 := (cntL_le (w := wtS) one1_le (x.V.Pre))
  simp only [MPick.cntR, MPick.wt, MVer.wt] <;> omega
theorem MPick.cntA_le (x : MPick) : x.cntA ≤ 8 * x.wt := by
  have g4 := (cntL_le (w := wtS) one1_le (x.V.Pre))
  simp only [MPick.cntA, MPick.wt, MVer.wt] <;> omega
theorem MPick.open {H : List Entry} {w q : Bool} {n : Nat} {ids : List Nat} {cs : List Cell} {x : MPick} (h0 : Sp (Rep H w q n) ids cs x.tr) : ∃ c4, cs = [Cell.str (bs x.Name), Cell.int x.V.A, Cell.int x.V.B, Cell.int x.V.C, c4] := by
  simp only [MPick.tr] at h0
  obtain ⟨cs, rfl, h1⟩ := Sp.leaf_inv h0
  obtain ⟨cs, rfl, h2⟩ := Sp.leaf_inv h1
  obtain ⟨cs, rfl, h3⟩ := Sp.leaf_inv h2
  obtain ⟨cs, rfl, h4⟩ := Sp.leaf_inv h3
  obtain ⟨c4, cs, rfl, _, h5⟩ := Sp.list_inv h4
  obtain ⟨_, rfl⟩ := h5.nil_inv
  exact ⟨c4, rfl⟩
structure MPlan where
  Tasks : List Str
  Deps : List (List Str)
deriving DecidableEq
def MPlan.enc (x : MPlan) : List Cell := [encL 1 eStr x.Tasks, encL 1 eStrs x.Deps]
instance : CanonE MPlan.enc := ⟨fun _ => CanonLs.canon (cs := [_, _])⟩
def MPlan.wt (x : MPlan) : Nat := (wtL wtS x.Tasks) + (wtL (wtL wtS) x.Deps)
def MPlan.Bd (N : Nat) (x : MPlan) : Prop := (bdL N (bdS N) x.Tasks) ∧ (bdL N (bdL N (bdS N)) x.Deps)
theorem MPlan.bd_wt {N M : Nat} {x : MPlan} (h : x.Bd M) (hw : x.wt ≤ N) : x.Bd N := ⟨bdL_wt (w := wtS) h.1 (by simp only [MPlan.wt] at hw; omega : wtL wtS (x.Tasks) ≤ N) (fun y h hw => (show bdS N (y) from (hw : wtS (y) ≤ N))), bdL_wt (w := (wtL wtS)) h.2 (by simp only [MPlan.wt] at hw; omega : wtL (wtL wtS) (x.Deps) ≤ N) (fun y h hw => bdL_wt (w := wtS) h (hw : wtL wtS (y) ≤ N) (fun y h hw => (show bdS N (y) from (hw : wtS (y) ≤ N))))⟩
theorem MPlan.of_wt : ∀ (n : Nat) (cs : List Cell), WT Γ0 n 47 cs → ∃ x : MPlan, cs = x.enc ∧ x.Bd maxLen := by
  intro n cs h
  obtain ⟨n, rfl⟩ := WT_succ h
  have h := WT_struct h (by kernel_rfl : Γ0.ty 47 = some ty47) rfl
  simp only [List.map_cons, List.map_nil, WTs] at h
  obtain ⟨a0, b0, e0, h0, a1, b1, e1, h1, e2⟩ := h
  obtain ⟨x0, f0, g0⟩ := WT_slice (e0 := eStr) (b := (bdS maxLen)) h0 (by kernel_rfl : Γ0.ty 44 = some ty44) rfl (by kernel_rfl : Γ0.ty 9 = some ty9) (fun n r h => WT_str h (by kernel_rfl : Γ0.ty 9 = some ty9) rfl)
  obtain ⟨x1, f1, g1⟩ := WT_slice (e0 := eStrs) (b := (bdL maxLen (bdS maxLen))) h1 (by kernel_rfl : Γ0.ty 45 = some ty45) rfl (by kernel_rfl : Γ0.ty 44 = some ty44) (fun n r h => WT_slice (e0 := eStr) (b := (bdS maxLen)) h (by kernel_rfl : Γ0.ty 44 = some ty44) rfl (by kernel_rfl : Γ0.ty 9 = some ty9) (fun n r h => WT_str h (by kernel_rfl : Γ0.ty 9 = some ty9) rfl))
  refine ⟨⟨x0, x1⟩, ?_, ⟨g0, g1⟩⟩
  subst f0 f1
  rw [e0, e1, e2]
  rfl
def MPlan.tr (x : MPlan) : List Tr := [trL 1 trStr x.Tasks, trL 1 (trLs 1 trStr) x.Deps]
instance : TrE MPlan.tr MPlan.enc := ⟨fun x => by simp only [MPlan.tr, MPlan.enc, List.map_cons, List.map_nil, leaf_cell, trL_cell]⟩
def MPlan.mkR (x : MPlan) (k : Nat) : MPlan := ⟨mkL mkStr one1 x.Tasks k, mkL (mkL mkStr one1) (cntL one1) x.Deps (k + cntL one1 x.Tasks)⟩
def MPlan.cntR (x : MPlan) : Nat := ((0 + cntL one1 x.Tasks) + cntL (cntL one1) x.Deps)
def MPlan.mkA (x : MPlan) (k : Nat) : MPlan := ⟨mkL mkStr one1 x.Tasks k, mkL (mkL mkStr one1) (cntL one1) x.Deps (k + cntL one1 x.Tasks)⟩
def MPlan.cntA (x : MPlan) : Nat := ((0 + cntL one1 x.Tasks) + cntL (cntL one1) x.Deps)
theorem MPlan.cntR_le (x : MPlan) : x.cntR ≤ 8 + 8 * x.wt := by
  have g0 := (cntL_le (w := wtS) one1_le (x.Tasks))
  have g1 := (cntL_le (w := (wtL wtS)) (fun x => Nat.le_trans (cntL_le (w := wtS) one1_le (x)) (by omega)) (x.Deps))
  simp only [MPlan.cntR, MPlan.wt] <;> omega
theorem MPlan.cntA_le (x : MPlan) : x.cntA ≤ 8 * x.wt := by
  have g0 := (cntL_le (w := wtS) one1_le (x.Tasks))
  have g1 := (cntL_le (w := (wtL wtS)) (fun x => Nat.le_trans (cntL_le (w := wtS) one1_le (x)) (by omega)) (x.Deps))
  simp only [MPlan.cntA, MPlan.wt] <;> omega
theorem MPlan.open {H : List Entry} {w q : Bool} {n : Nat} {ids : List Nat} {cs : List Cell} {x : MPlan} (h0 : Sp (Rep H w q n) ids cs x.tr) : ∃ c0 c1, cs = [c0, c1] := by
  simp only [MPlan.tr] at h0
  obtain ⟨c0, cs, rfl, _, h1⟩ := Sp.list_inv h0
  obtain ⟨c1, cs, rfl, _, h2⟩ := Sp.list_inv h1
  obtain ⟨_, rfl⟩ := h2.nil_inv
  exact ⟨c0, c1, rfl⟩
structure MRule where
  Task : Str
  On : List Str
  Ins : List Str
  Envs : List Str
  Keep : Bool
deriving DecidableEq
def MRule.enc (x : MRule) : List Cell := [Cell.str (bs x.Task), encL 1 eStr x.On, encL 1 eStr x.Ins, encL 1 eStr x.Envs, Cell.bool x.Keep]
instance : CanonE MRule.enc := ⟨fun _ => CanonLs.canon (cs := [_, _, _, _, _])⟩
def MRule.wt (x : MRule) : Nat := (wtS x.Task) + (wtL wtS x.On) + (wtL wtS x.Ins) + (wtL wtS x.Envs)
def MRule.Bd (N : Nat) (x : MRule) : Prop := (bdS N x.Task) ∧ (bdL N (bdS N) x.On) ∧ (bdL N (bdS N) x.Ins) ∧ (bdL N (bdS N) x.Envs) ∧ (True)
theorem MRule.bd_wt {N M : Nat} {x : MRule} (h : x.Bd M) (hw : x.wt ≤ N) : x.Bd N := ⟨(show bdS N (x.Task) from (by simp only [MRule.wt] at hw; omega : wtS (x.Task) ≤ N)), bdL_wt (w := wtS) h.2.1 (by simp only [MRule.wt] at hw; omega : wtL wtS (x.On) ≤ N) (fun y h hw => (show bdS N (y) from (hw : wtS (y) ≤ N))), bdL_wt (w := wtS) h.2.2.1 (by simp only [MRule.wt] at hw; omega : wtL wtS (x.Ins) ≤ N) (fun y h hw => (show bdS N (y) from (hw : wtS (y) ≤ N))), bdL_wt (w := wtS) h.2.2.2.1 (by simp only [MRule.wt] at hw; omega : wtL wtS (x.Envs) ≤ N) (fun y h hw => (show bdS N (y) from (hw : wtS (y) ≤ N))), h.2.2.2.2⟩
theorem MRule.of_wt : ∀ (n : Nat) (cs : List Cell), WT Γ0 n 83 cs → ∃ x : MRule, cs = x.enc ∧ x.Bd maxLen := by
  intro n cs h
  obtain ⟨n, rfl⟩ := WT_succ h
  have h := WT_struct h (by kernel_rfl : Γ0.ty 83 = some ty83) rfl
  simp only [List.map_cons, List.map_nil, WTs] at h
  obtain ⟨a0, b0, e0, h0, a1, b1, e1, h1, a2, b2, e2, h2, a3, b3, e3, h3, a4, b4, e4, h4, e5⟩ := h
  obtain ⟨x0, f0, g0⟩ := WT_str h0 (by kernel_rfl : Γ0.ty 9 = some ty9) rfl
  obtain ⟨x1, f1, g1⟩ := WT_slice (e0 := eStr) (b := (bdS maxLen)) h1 (by kernel_rfl : Γ0.ty 44 = some ty44) rfl (by kernel_rfl : Γ0.ty 9 = some ty9) (fun n r h => WT_str h (by kernel_rfl : Γ0.ty 9 = some ty9) rfl)
  obtain ⟨x2, f2, g2⟩ := WT_slice (e0 := eStr) (b := (bdS maxLen)) h2 (by kernel_rfl : Γ0.ty 44 = some ty44) rfl (by kernel_rfl : Γ0.ty 9 = some ty9) (fun n r h => WT_str h (by kernel_rfl : Γ0.ty 9 = some ty9) rfl)
  obtain ⟨x3, f3, g3⟩ := WT_slice (e0 := eStr) (b := (bdS maxLen)) h3 (by kernel_rfl : Γ0.ty 44 = some ty44) rfl (by kernel_rfl : Γ0.ty 9 = some ty9) (fun n r h => WT_str h (by kernel_rfl : Γ0.ty 9 = some ty9) rfl)
  obtain ⟨x4, f4, g4⟩ := WT_bool h4 (by kernel_rfl : Γ0.ty 4 = some ty4) rfl
  refine ⟨⟨x0, x1, x2, x3, x4⟩, ?_, ⟨g0, g1, g2, g3, g4⟩⟩
  subst f0 f1 f2 f3 f4
  rw [e0, e1, e2, e3, e4, e5]
  rfl
def MRule.tr (x : MRule) : List Tr := [.leaf (.string (bs x.Task)), trL 1 trStr x.On, trL 1 trStr x.Ins, trL 1 trStr x.Envs, .leaf (.bool x.Keep)]
instance : TrE MRule.tr MRule.enc := ⟨fun x => by simp only [MRule.tr, MRule.enc, List.map_cons, List.map_nil, leaf_cell, trL_cell]⟩
def MRule.mkR (x : MRule) (k : Nat) : MRule := ⟨markB k, mkL mkStr one1 x.On (k + 1), mkL mkStr one1 x.Ins ((k + 1) + cntL one1 x.On), mkL mkStr one1 x.Envs (((k + 1) + cntL one1 x.On) + cntL one1 x.Ins), (((((((k + 1) + cntL one1 x.On) + cntL one1 x.Ins) + cntL one1 x.Envs) : Nat) : Int).tmod 3 == 0)⟩
def MRule.cntR (x : MRule) : Nat := (((((0 + 1) + cntL one1 x.On) + cntL one1 x.Ins) + cntL one1 x.Envs) + 1)
def MRule.mkA (x : MRule) (k : Nat) : MRule := ⟨x.Task, mkL mkStr one1 x.On k, mkL mkStr one1 x.Ins (k + cntL one1 x.On), mkL mkStr one1 x.Envs ((k + cntL one1 x.On) + cntL one1 x.Ins), x.Keep⟩
def MRule.cntA (x : MRule) : Nat := (((0 + cntL one1 x.On) + cntL one1 x.Ins) + cntL one1 x.Envs)
theorem MRule.cntR_le (x : MRule) : x.cntR ≤ 8 + 8 * x.wt := by
  have g1 := (cntL_le (w := wtS) one1_le (x.On))
  have g2 := (cntL_le (w := wtS) one1_le (x.Ins))
  have g3 := (cntL_le (w := wtS) one1_le (x.Envs))
  simp only [MRule.cntR, MRule.wt] <;> omega
theorem MRule.cntA_le (x : MRule) : x.cntA ≤ 8 * x.wt := by
  have g1 := (cntL_le (w := wtS) one1_le (x.On))
  have g2 := (cntL_le (w := wtS) one1_le (x.Ins))
  have g3 := (cntL_le (w := wtS) one1_le (x.Envs))
  simp only [MRule.cntA, MRule.wt] <;> omega
theorem MRule.open {H : List Entry} {w q : Bool} {n : Nat} {ids : List Nat} {cs : List Cell} {x : MRule} (h0 : Sp (Rep H w q n) ids cs x.tr) : ∃ c1 c2 c3, cs = [Cell.str (bs x.Task), c1, c2, c3, Cell.bool x.Keep] := by
  simp only [MRule.tr] at h0
  obtain ⟨cs, rfl, h1⟩ := Sp.leaf_inv h0
  obtain ⟨c1, cs, rfl, _, h2⟩ := Sp.list_inv h1
  obtain ⟨c2, cs, rfl, _, h3⟩ := Sp.list_inv h2
  obtain ⟨c3, cs, rfl, _, h4⟩ := Sp.list_inv h3
  obtain ⟨cs, rfl, h5⟩ := Sp.leaf_inv h4
  obtain ⟨_, rfl⟩ := h5.nil_inv
  exact ⟨c1, c2, c3, rfl⟩
structure MSlot where
  Key : Str
  B : Str
deriving DecidableEq
def MSlot.enc (x : MSlot) : List Cell := [bytesC x.Key, bytesC x.B]
instance : CanonE MSlot.enc := ⟨fun _ => CanonLs.canon (cs := [_, _])⟩
def MSlot.wt (x : MSlot) : Nat := (wtS x.Key) + (wtS x.B)
def MSlot.Bd (N : Nat) (x : MSlot) : Prop := (bdS N x.Key) ∧ (bdS N x.B)
theorem MSlot.bd_wt {N M : Nat} {x : MSlot} (h : x.Bd M) (hw : x.wt ≤ N) : x.Bd N := ⟨(show bdS N (x.Key) from (by simp only [MSlot.wt] at hw; omega : wtS (x.Key) ≤ N)), (show bdS N (x.B) from (by simp only [MSlot.wt] at hw; omega : wtS (x.B) ≤ N))⟩
theorem MSlot.of_wt : ∀ (n : Nat) (cs : List Cell), WT Γ0 n 111 cs → ∃ x : MSlot, cs = x.enc ∧ x.Bd maxLen := by
  intro n cs h
  obtain ⟨n, rfl⟩ := WT_succ h
  have h := WT_struct h (by kernel_rfl : Γ0.ty 111 = some ty111) rfl
  simp only [List.map_cons, List.map_nil, WTs] at h
  obtain ⟨a0, b0, e0, h0, a1, b1, e1, h1, e2⟩ := h
  obtain ⟨x0, f0, g0⟩ := WT_bytes h0 (by kernel_rfl : Γ0.ty 109 = some ty109) rfl (by kernel_rfl : Γ0.ty 5 = some ty5) rfl rfl
  obtain ⟨x1, f1, g1⟩ := WT_bytes h1 (by kernel_rfl : Γ0.ty 109 = some ty109) rfl (by kernel_rfl : Γ0.ty 5 = some ty5) rfl rfl
  refine ⟨⟨x0, x1⟩, ?_, ⟨g0, g1⟩⟩
  subst f0 f1
  rw [e0, e1, e2]
  rfl
def MSlot.tr (x : MSlot) : List Tr := [trL 1 trByte x.Key, trL 1 trByte x.B]
instance : TrE MSlot.tr MSlot.enc := ⟨fun x => by simp only [MSlot.tr, MSlot.enc, List.map_cons, List.map_nil, leaf_cell, trL_cell]⟩
def MSlot.mkR (x : MSlot) (k : Nat) : MSlot := ⟨mkL mkByte one1 x.Key k, mkL mkByte one1 x.B (k + cntL one1 x.Key)⟩
def MSlot.cntR (x : MSlot) : Nat := ((0 + cntL one1 x.Key) + cntL one1 x.B)
def MSlot.mkA (x : MSlot) (k : Nat) : MSlot := ⟨mkL mkByte one1 x.Key k, mkL mkByte one1 x.B (k + cntL one1 x.Key)⟩
def MSlot.cntA (x : MSlot) : Nat := ((0 + cntL one1 x.Key) + cntL one1 x.B)
theorem MSlot.cntR_le (x : MSlot) : x.cntR ≤ 8 + 8 * x.wt := by
  have g0 := (cntB_le (x.Key))
  have g1 := (cntB_le (x.B))
  simp only [MSlot.cntR, MSlot.wt] <;> omega
theorem MSlot.cntA_le (x : MSlot) : x.cntA ≤ 8 * x.wt := by
  have g0 := (cntB_le (x.Key))
  have g1 := (cntB_le (x.B))
  simp only [MSlot.cntA, MSlot.wt] <;> omega
theorem MSlot.open {H : List Entry} {w q : Bool} {n : Nat} {ids : List Nat} {cs : List Cell} {x : MSlot} (h0 : Sp (Rep H w q n) ids cs x.tr) : ∃ c0 c1, cs = [c0, c1] := by
  simp only [MSlot.tr] at h0
  obtain ⟨c0, cs, rfl, _, h1⟩ := Sp.list_inv h0
  obtain ⟨c1, cs, rfl, _, h2⟩ := Sp.list_inv h1
  obtain ⟨_, rfl⟩ := h2.nil_inv
  exact ⟨c0, c1, rfl⟩
end Go.Ev
