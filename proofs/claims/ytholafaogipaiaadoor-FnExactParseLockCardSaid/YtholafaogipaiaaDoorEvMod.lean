/- The values that the laws speak of, as Lean has them, and how they lie in cells. Conditions: none. -/
import Derived.Test.YtholafaogipaiaaDoorEvLib
import Derived.Test.YtholafaogipaiaaDoorEvPr
import Derived.Test.YtholafaogipaiaaDoorEvMem
set_option linter.unusedSimpArgs false
set_option linter.unusedVariables false
namespace Go.Ev
open Go
noncomputable def Γ0 : Ctx := ctx tyTab fiTab []
structure MVer where
  A : Int
  B : Int
  C : Int
  Pre : List Str
deriving DecidableEq
def MVer.enc (x : MVer) : List Cell := [Cell.int x.A, Cell.int x.B, Cell.int x.C, encL 1 eStr x.Pre]
instance : CanonE MVer.enc := ⟨fun _ => CanonLs.canon (cs := [_, _, _, _])⟩
def MVer.wt (x : MVer) : Nat := (wtL wtS x.Pre)
def MVer.Bd (N : Nat) (x : MVer) : Prop := (bdI x.A) ∧ (bdI x.B) ∧ (bdI x.C) ∧ (bdL N (bdS N) x.Pre)
theorem MVer.bd_wt {N M : Nat} {x : MVer} (h : x.Bd M) (hw : x.wt ≤ N) : x.Bd N := ⟨h.1, h.2.1, h.2.2.1, bdL_wt (w := wtS) h.2.2.2 (by simp only [MVer.wt] at hw; omega : wtL wtS (x.Pre) ≤ N) (fun y h hw => (show bdS N (y) from (hw : wtS (y) ≤ N)))⟩
def MVer.tr (x : MVer) : List Tr := [.leaf (.int .i64 x.A), .leaf (.int .i64 x.B), .leaf (.int .i64 x.C), trL 1 trStr x.Pre]
instance : TrE MVer.tr MVer.enc := ⟨fun x => by simp only [MVer.tr, MVer.enc, List.map_cons, List.map_nil, leaf_cell, trL_cell]⟩
def MVer.mkR (x : MVer) (k : Nat) : MVer := ⟨((k : Nat) : Int), (((k + 1) : Nat) : Int), ((((k + 1) + 1) : Nat) : Int), mkL mkStr one1 x.Pre (((k + 1) + 1) + 1)⟩
def MVer.cntR (x : MVer) : Nat := ((((0 + 1) + 1) + 1) + cntL one1 x.Pre)
def MVer.mkA (x : MVer) (k : Nat) : MVer := ⟨x.A, x.B, x.C, mkL mkStr one1 x.Pre k⟩
def MVer.cntA (x : MVer) : Nat := (0 + cntL one1 x.Pre)
theorem MVer.cntR_le (x : MVer) : x.cntR ≤ 8 + 8 * x.wt := by
  have g3 := (cntL_le (w := wtS) one1_le (x.Pre))
  simp only [MVer.cntR, MVer.wt] <;> omega
theorem MVer.cntA_le (x : MVer) : x.cntA ≤ 8 * x.wt := by
  have g3 := (cntL_le (w := wtS) one1_le (x.Pre))
  simp only [MVer.cntA, MVer.wt] <;> omega
theorem MVer.open {H : List Entry} {w q : Bool} {n : Nat} {ids : List Nat} {cs : List Cell} {x : MVer} (h0 : Sp (Rep H w q n) ids cs x.tr) : ∃ c3, cs = [Cell.int x.A, Cell.int x.B, Cell.int x.C, c3] := by
  simp only [MVer.tr] at h0
  obtain ⟨cs, rfl, h1⟩ := Sp.leaf_inv h0
  obtain ⟨cs, rfl, h2⟩ := Sp.leaf_inv h1
  obtain ⟨cs, rfl, h3⟩ := Sp.leaf_inv h2
  obtain ⟨c3, cs, rfl, _, h4⟩ := Sp.list_inv h3
  obtain ⟨_, rfl⟩ := h4.nil_inv
  exact ⟨c3, rfl⟩
structure MPick where
  Name : Str
  V : MVer
deriving DecidableEq
def MPick.enc (x : MPick) : List Cell := [Cell.str (bs x.Name), Cell.int x.V.A, Cell.int x.V.B, Cell.int x.V.C, encL 1 eStr x.V.Pre]
instance : CanonE MPick.enc := ⟨fun _ => CanonLs.canon (cs := [_, _, _, _, _])⟩
def MPick.wt (x : MPick) : Nat := (wtS x.Name) + (MVer.wt x.V)
def MPick.Bd (N : Nat) (x : MPick) : Prop := (bdS N x.Name) ∧ (MVer.Bd N x.V)
theorem MPick.bd_wt {N M : Nat} {x : MPick} (h : x.Bd M) (hw : x.wt ≤ N) : x.Bd N := ⟨(show bdS N (x.Name) from (by simp only [MPick.wt] at hw; omega : wtS (x.Name) ≤ N)), MVer.bd_wt h.2 (by simp only [MPick.wt] at hw; omega : MVer.wt (x.V) ≤ N)⟩
def MPick.tr (x : MPick) : List Tr := [.leaf (.string (bs x.Name)), .leaf (.int .i64 x.V.A), .leaf (.int .i64 x.V.B), .leaf (.int .i64 x.V.C), trL 1 trStr x.V.Pre]
instance : TrE MPick.tr MPick.enc := ⟨fun x => by simp only [MPick.tr, MPick.enc, List.map_cons, List.map_nil, leaf_cell, trL_cell]⟩
def MPick.mkR (x : MPick) (k : Nat) : MPick := ⟨markB k, ⟨(((k + 1) : Nat) : Int), ((((k + 1) + 1) : Nat) : Int), (((((k + 1) + 1) + 1) : Nat) : Int), mkL mkStr one1 x.V.Pre ((((k + 1) + 1) + 1) + 1)⟩⟩
def MPick.cntR (x : MPick) : Nat := (((((0 + 1) + 1) + 1) + 1) + cntL one1 x.V.Pre)
def MPick.mkA (x : MPick) (k : Nat) : MPick := ⟨x.Name, ⟨x.V.A, x.V.B, x.V.C, mkL mkStr one1 x.V.Pre k⟩⟩
def MPick.cntA (x : MPick) : Nat := (0 + cntL one1 x.V.Pre)
theorem MPick.cntR_le (x : MPick) : x.cntR ≤ 8 + 8 * x.wt := by
  have g4 := (cntL_le (w := wtS) one1_le (x.V.Pre))
  simp only [MPick.cntR, MPick.wt, MVer.wt] <;> omega
theorem MPick.cntA_le (x : MPick) : x.cntA ≤ 8 * x.wt := by
  have g4 := (cntL_le (w := wtS) one1_le (x.V.Pre))
  simp only [MPick.cntA, MPick.wt, MVer.wt] <;> omega
theorem MPick.open {H : List Entry} {w q : Bool} {n : Nat} {ids : List Nat} {cs : List Cell} {x : MPick} (h0 : Sp (Rep H w q n) ids cs x.tr) : ∃ c4, cs = [Cell.str (bs x.Name), Cell.int x.V.A, Cell.int x.V.B, Cell.int x.V.C, c4] := by
  simp only [MPick.tr] at h0
  obtain ⟨cs, rfl, h1⟩ := Sp.leaf_inv h0
  obtain ⟨cs, rfl, h2⟩ := Sp.leaf_inv h1
  obtain ⟨cs, rfl, h3⟩ := Sp.leaf_inv h2
  obtain ⟨cs, rfl, h4⟩ := Sp.leaf_inv h3
  obtain ⟨c4, cs, rfl, _, h5⟩ := Sp.list_inv h4
  obtain ⟨_, rfl⟩ := h5.nil_inv
  exact ⟨c4, rfl⟩
end Go.Ev
