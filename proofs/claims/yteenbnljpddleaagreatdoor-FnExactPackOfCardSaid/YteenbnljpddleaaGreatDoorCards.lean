/-
  DERIVED. GIVEN WITH THE SEED: THE CARDS: each row of YteenbnljpddleaaGreatDoorRows.lean that lists a variable, with what it lists TIED to the program's text (the seventh form; the later family's looks); each row that meets fmt, with fmt's text TOLD by the authors' own Lean function (tested against real Go, not proved from fmt's source: count such statements apart). THE CARD IS WHAT COUNTS. Prove the row's statement (the work); the ties are given (YteenbnljpddleaaGreatDoorTie.lean); close each card by the builder's one call (the guide's Derived/Test/ToyasCard.lean, 'card_holds'). Laid BY PROGRAM, IN A SANDBOX (cutbox-door.mjs). By AI agents, Wed Nov 11 2026. No macro, syntax, notation, axiom, sorry.
-/
import Derived.Test.YteenbnljpddleaaGreatDoorRows
import GoSem.ClaimSeven
namespace Go.Proofs.YteenbnljpddleaaGreatDoor
namespace Rows

/-- THE TIED CARD OF 'laws.FnExactPlanOf'. -/
def fnExactPlanOfCard : Claim7 := { stood := { row := fnExactPlanOfRow, standIns := [], harness := (true, "d401dabc5c84ccbfcbe90fbef7f4e526fe130c4436438595c089c75dc269813e"), looks := false }, kinds := [], alts := [], laidByText := true, laidKinds := [.data, .data, .data, .data, .pinned], laidTests := true, laidLooks := .later }
def FnExactPlanOfCardSaid : Prop := Claim7.holds Tryz.pinned (.plain (OpenSpec.ofChange fnExactPlanOfSpec)) fnExactPlanOfCard

/-- THE TIED CARD OF 'laws.FnExactPackOf'. -/
def fnExactPackOfCard : Claim7 := { stood := { row := fnExactPackOfRow, standIns := [], harness := (true, "d401dabc5c84ccbfcbe90fbef7f4e526fe130c4436438595c089c75dc269813e"), looks := false }, kinds := [], alts := [], laidByText := true, laidKinds := [.data, .data, .data, .data, .pinned], laidTests := true, laidLooks := .later }
def FnExactPackOfCardSaid : Prop := Claim7.holds Tryz.pinned (.plain (OpenSpec.ofChange fnExactPackOfSpec)) fnExactPackOfCard

/-- THE SECOND FORM's CARD OF 'laws.FnExactPlanOf'. -/
def fnExactPlanOfUptoCard : Claim7 := { stood := { row := fnExactPlanOfUptoRow, standIns := [], harness := (true, "d401dabc5c84ccbfcbe90fbef7f4e526fe130c4436438595c089c75dc269813e"), looks := false }, kinds := [], alts := [], laidByText := true, laidKinds := [.data, .data, .data, .data, .pinned], laidTests := true, laidLooks := .later }
def FnExactPlanOfUptoCardSaid : Prop := Claim7.holds Tryz.pinned (.plain (OpenSpec.upto fnExactPlanOfSpec)) fnExactPlanOfUptoCard

/-- THE SECOND FORM's CARD OF 'laws.FnExactPackOf'. -/
def fnExactPackOfUptoCard : Claim7 := { stood := { row := fnExactPackOfUptoRow, standIns := [], harness := (true, "d401dabc5c84ccbfcbe90fbef7f4e526fe130c4436438595c089c75dc269813e"), looks := false }, kinds := [], alts := [], laidByText := true, laidKinds := [.data, .data, .data, .data, .pinned], laidTests := true, laidLooks := .later }
def FnExactPackOfUptoCardSaid : Prop := Claim7.holds Tryz.pinned (.plain (OpenSpec.upto fnExactPackOfSpec)) fnExactPackOfUptoCard
end Rows
end Go.Proofs.YteenbnljpddleaaGreatDoor
