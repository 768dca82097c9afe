/- The values that the laws speak of, as Lean has them, and how they lie in cells. Conditions: none. -/
import Derived.Test.YtohfdpklicamkaaDoorEvLib
import Derived.Test.YtohfdpklicamkaaDoorEvPr
import Derived.Test.YtohfdpklicamkaaDoorEvMem
set_option linter.unusedSimpArgs false
set_option linter.unusedVariables false
namespace Go.Ev
open Go
noncomputable def Γ0 : Ctx := ctx tyTab fiTab []
structure MVer where
  A : Int
  B : Int
  C : Int
  Pre : List Str
deriving DecidableEq
def MVer.enc (x : MVer) : List Cell := [Cell.int x.A, Cell.int x.B, Cell.int x.C, encL 1 eStr x.Pre]
instance : CanonE MVer.enc := ⟨fun _ => CanonLs.canon (cs := [_, _, _, _])⟩
def MVer.wt (x : MVer) : Nat := (wtL wtS x.Pre)
def MVer.Bd (N : Nat) (x : MVer) : Prop := (bdI x.A) ∧ (bdI x.B) ∧ (bdI x.C) ∧ (bdL N (bdS N) x.Pre)
theorem MVer.bd_wt {N M : Nat} {x : MVer} (h : x.Bd M) (hw : x.wt ≤ N) : x.Bd N := ⟨h.1, h.2.1, h.2.2.1, bdL_wt (w := wtS) h.2.2.2 (by simp only [MVer.wt] at hw; omega : wtL wtS (x.Pre) ≤ N) (fun y h hw => (show bdS N (y) from (hw : wtS (y) ≤ N)))⟩
theorem MVer.of_wt : ∀ (n : Nat) (cs : List Cell), WT Γ0 n 77 cs → ∃ x : MVer, cs = x.enc ∧ x.Bd maxLen := by
  intro n cs h
  obtain ⟨n, rfl⟩ := WT_succ h
  have h := WT_struct h (by kernel_rfl : Γ0.ty 77 = some ty77) rfl
  simp only [List.map_cons, List.map_nil, WTs] at h
  obtain ⟨a0, b0, e0, h0, a1, b1, e1, h1, a2, b2, e2, h2, a3, b3, e3, h3, e4⟩ := h
  obtain ⟨x0, f0, g0⟩ := WT_int h0 (by kernel_rfl : Γ0.ty 3 = some ty3) rfl
  obtain ⟨x1, f1, g1⟩ := WT_int h1 (by kernel_rfl : Γ0.ty 3 = some ty3) rfl
  obtain ⟨x2, f2, g2⟩ := WT_int h2 (by kernel_rfl : Γ0.ty 3 = some ty3) rfl
  obtain ⟨x3, f3, g3⟩ := WT_slice (e0 := eStr) (b := (bdS maxLen)) h3 (by kernel_rfl : Γ0.ty 30 = some ty30) rfl (by kernel_rfl : Γ0.ty 9 = some ty9) (fun n r h => WT_str h (by kernel_rfl : Γ0.ty 9 = some ty9) rfl)
  refine ⟨⟨x0, x1, x2, x3⟩, ?_, ⟨g0, g1, g2, g3⟩⟩
  subst f0 f1 f2 f3
  rw [e0, e1, e2, e3, e4]
  rfl
structure MPick where
  Name : Str
  V : MVer
deriving DecidableEq
def MPick.enc (x : MPick) : List Cell := [Cell.str (bs x.Name), Cell.int x.V.A, Cell.int x.V.B, Cell.int x.V.C, encL 1 eStr x.V.Pre]
instance : CanonE MPick.enc := ⟨fun _ => CanonLs.canon (cs := [_, _, _, _, _])⟩
def MPick.wt (x : MPick) : Nat := (wtS x.Name) + (MVer.wt x.V)
def MPick.Bd (N : Nat) (x : MPick) : Prop := (bdS N x.Name) ∧ (MVer.Bd N x.V)
theorem MPick.bd_wt {N M : Nat} {x : MPick} (h : x.Bd M) (hw : x.wt ≤ N) : x.Bd N := ⟨(show bdS N (x.Name) from (by simp only [MPick.wt] at hw; omega : wtS (x.Name) ≤ N)), MVer.bd_wt h.2 (by simp only [MPick.wt] at hw; omega : MVer.wt (x.V) ≤ N)⟩
theorem MPick.of_wt : ∀ (n : Nat) (cs : List Cell), WT Γ0 n 79 cs → ∃ x : MPick, cs = x.enc ∧ x.Bd maxLen := by
  intro n cs h
  obtain ⟨n, rfl⟩ := WT_succ h
  have h := WT_struct h (by kernel_rfl : Γ0.ty 79 = some ty79) rfl
  simp only [List.map_cons, List.map_nil, WTs] at h
  obtain ⟨a0, b0, e0, h0, a1, b1, e1, h1, e2⟩ := h
  obtain ⟨x0, f0, g0⟩ := WT_str h0 (by kernel_rfl : Γ0.ty 9 = some ty9) rfl
  obtain ⟨x1, f1, g1⟩ := MVer.of_wt _ _ h1
  refine ⟨⟨x0, x1⟩, ?_, ⟨g0, g1⟩⟩
  subst f0 f1
  rw [e0, e1, e2]
  rfl

end Go.Ev
