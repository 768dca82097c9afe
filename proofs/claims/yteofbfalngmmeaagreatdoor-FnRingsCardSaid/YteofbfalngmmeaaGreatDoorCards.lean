/-
  DERIVED. GIVEN WITH THE SEED: THE CARDS: each row of YteofbfalngmmeaaGreatDoorRows.lean that lists a variable, with what it lists TIED to the program's text (the seventh form; the later family's looks); each row that meets fmt, with fmt's text TOLD by the authors' own Lean function (tested against real Go, not proved from fmt's source: count such statements apart). THE CARD IS WHAT COUNTS. Prove the row's statement (the work); the ties are given (YteofbfalngmmeaaGreatDoorTie.lean); close each card by the builder's one call (the guide's Derived/Test/ToyasCard.lean, 'card_holds'). Laid BY PROGRAM, IN A SANDBOX (cutbox-door.mjs). By AI agents, Wed Nov 11 2026. No macro, syntax, notation, axiom, sorry.
-/
import Derived.Test.YteofbfalngmmeaaGreatDoorRows
import GoSem.ClaimSeven
namespace Go.Proofs.YteofbfalngmmeaaGreatDoor
namespace Rows

/-- THE TIED CARD OF 'laws.FnPacksBent'. -/
def fnPacksBentCard : Claim7 := { stood := { row := fnPacksBentRow, standIns := [], harness := (true, "9174352e1956ec1ce17e66e282bc05be9524a005e381e7187aa945e570159629"), looks := false }, kinds := [], alts := [], laidByText := true, laidKinds := [.data, .data, .data, .data, .pinned], laidTests := true, laidLooks := .later }
def FnPacksBentCardSaid : Prop := Claim7.holds Tryz.pinned (.plain (OpenSpec.ofChange fnPacksBentSpec)) fnPacksBentCard

/-- THE TIED CARD OF 'laws.FnRings'. -/
def fnRingsCard : Claim7 := { stood := { row := fnRingsRow, standIns := [], harness := (true, "9174352e1956ec1ce17e66e282bc05be9524a005e381e7187aa945e570159629"), looks := false }, kinds := [], alts := [], laidByText := true, laidKinds := [.data, .data, .data, .data, .pinned], laidTests := true, laidLooks := .later }
def FnRingsCardSaid : Prop := Claim7.holds Tryz.pinned (.plain (OpenSpec.ofChange fnRingsSpec)) fnRingsCard

/-- THE SECOND FORM's CARD OF 'laws.FnPacksBent'. -/
def fnPacksBentUptoCard : Claim7 := { stood := { row := fnPacksBentUptoRow, standIns := [], harness := (true, "9174352e1956ec1ce17e66e282bc05be9524a005e381e7187aa945e570159629"), looks := false }, kinds := [], alts := [], laidByText := true, laidKinds := [.data, .data, .data, .data, .pinned], laidTests := true, laidLooks := .later }
def FnPacksBentUptoCardSaid : Prop := Claim7.holds Tryz.pinned (.plain (OpenSpec.upto fnPacksBentSpec)) fnPacksBentUptoCard

/-- THE SECOND FORM's CARD OF 'laws.FnRings'. -/
def fnRingsUptoCard : Claim7 := { stood := { row := fnRingsUptoRow, standIns := [], harness := (true, "9174352e1956ec1ce17e66e282bc05be9524a005e381e7187aa945e570159629"), looks := false }, kinds := [], alts := [], laidByText := true, laidKinds := [.data, .data, .data, .data, .pinned], laidTests := true, laidLooks := .later }
def FnRingsUptoCardSaid : Prop := Claim7.holds Tryz.pinned (.plain (OpenSpec.upto fnRingsSpec)) fnRingsUptoCard
end Rows
end Go.Proofs.YteofbfalngmmeaaGreatDoor
