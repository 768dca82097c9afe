/-
  DERIVED. GIVEN WITH THE SEED: THE CARDS: each row of YteofbfalngmmeaaDoorRows.lean that lists a variable, with what it lists TIED to the program's text (the seventh form; the later family's looks); each row that meets fmt, with fmt's text TOLD by the authors' own Lean function (tested against real Go, not proved from fmt's source: count such statements apart). THE CARD IS WHAT COUNTS. Prove the row's statement (the work); the ties are given (YteofbfalngmmeaaDoorTie.lean); close each card by the builder's one call (the guide's Derived/Test/ToyasCard.lean, 'card_holds'). Laid BY PROGRAM, IN A SANDBOX (cutbox-door.mjs). By AI agents, Wed Nov 11 2026. No macro, syntax, notation, axiom, sorry.
-/
import Derived.Test.YteofbfalngmmeaaDoorRows
import GoSem.ClaimSeven
namespace Go.Proofs.YteofbfalngmmeaaDoor
namespace Rows

/-- THE TIED CARD OF 'laws.FnMades'. -/
def fnMadesCard : Claim7 := { stood := { row := fnMadesRow, standIns := [], harness := (true, "155d5ec19d47b5b49db8a869c02cda4a0528de4ecc2dedfaebbd1b708f73bab1"), looks := false }, kinds := [], alts := [], laidByText := true, laidKinds := [.data, .data, .data, .data, .pinned], laidTests := true, laidLooks := .later }
def FnMadesCardSaid : Prop := Claim7.holds Tryd.pinned (.plain (OpenSpec.ofChange fnMadesSpec)) fnMadesCard

/-- THE SECOND FORM's CARD OF 'laws.FnMades'. -/
def fnMadesUptoCard : Claim7 := { stood := { row := fnMadesUptoRow, standIns := [], harness := (true, "155d5ec19d47b5b49db8a869c02cda4a0528de4ecc2dedfaebbd1b708f73bab1"), looks := false }, kinds := [], alts := [], laidByText := true, laidKinds := [.data, .data, .data, .data, .pinned], laidTests := true, laidLooks := .later }
def FnMadesUptoCardSaid : Prop := Claim7.holds Tryd.pinned (.plain (OpenSpec.upto fnMadesSpec)) fnMadesUptoCard
end Rows
end Go.Proofs.YteofbfalngmmeaaDoor
