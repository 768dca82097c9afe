/-
  DERIVED. GIVEN WITH THE SEED: THE CARDS: each row of YtholafaogipaiaaGreatDoorRows.lean that lists a variable, with what it lists TIED to the program's text (the seventh form; the later family's looks); each row that meets fmt, with fmt's text TOLD by the authors' own Lean function (tested against real Go, not proved from fmt's source: count such statements apart). THE CARD IS WHAT COUNTS. Prove the row's statement (the work); the ties are given (YtholafaogipaiaaGreatDoorTie.lean); close each card by the builder's one call (the guide's Derived/Test/ToyasCard.lean, 'card_holds'). Laid BY PROGRAM, IN A SANDBOX (cutbox-door.mjs). By AI agents, Wed Nov 11 2026. No macro, syntax, notation, axiom, sorry.
-/
import Derived.Test.YtholafaogipaiaaGreatDoorRows
import GoSem.ClaimSeven
namespace Go.Proofs.YtholafaogipaiaaGreatDoor
namespace Rows

/-- THE TIED CARD OF 'laws.FnExactSolves'. -/
def fnExactSolvesCard : Claim7 := { stood := { row := fnExactSolvesRow, standIns := [], harness := (true, "64123304e32161fbc38d25ab5148e26e3e4d11cc6757e5d6d6acebfe44a2e48c"), looks := false }, kinds := [], alts := [], laidByText := true, laidKinds := [.data, .data, .data, .data, .pinned], laidTests := true, laidLooks := .later }
def FnExactSolvesCardSaid : Prop := Claim7.holds Tryz.pinned (.plain (OpenSpec.ofChange fnExactSolvesSpec)) fnExactSolvesCard

/-- THE TIED CARD OF 'laws.FnExactStale'. -/
def fnExactStaleCard : Claim7 := { stood := { row := fnExactStaleRow, standIns := [], harness := (true, "64123304e32161fbc38d25ab5148e26e3e4d11cc6757e5d6d6acebfe44a2e48c"), looks := false }, kinds := [], alts := [], laidByText := true, laidKinds := [.data, .data, .data, .data, .pinned], laidTests := true, laidLooks := .later }
def FnExactStaleCardSaid : Prop := Claim7.holds Tryz.pinned (.plain (OpenSpec.ofChange fnExactStaleSpec)) fnExactStaleCard

/-- THE TIED CARD OF 'laws.FnExactFiltered'. -/
def fnExactFilteredCard : Claim7 := { stood := { row := fnExactFilteredRow, standIns := [], harness := (true, "64123304e32161fbc38d25ab5148e26e3e4d11cc6757e5d6d6acebfe44a2e48c"), looks := false }, kinds := [], alts := [], laidByText := true, laidKinds := [.data, .data, .data, .data, .pinned], laidTests := true, laidLooks := .later }
def FnExactFilteredCardSaid : Prop := Claim7.holds Tryz.pinned (.plain (OpenSpec.ofChange fnExactFilteredSpec)) fnExactFilteredCard

/-- THE TIED CARD OF 'laws.FnPacksBent'. -/
def fnPacksBentCard : Claim7 := { stood := { row := fnPacksBentRow, standIns := [], harness := (true, "64123304e32161fbc38d25ab5148e26e3e4d11cc6757e5d6d6acebfe44a2e48c"), looks := false }, kinds := [], alts := [], laidByText := true, laidKinds := [.data, .data, .data, .data, .pinned], laidTests := true, laidLooks := .later }
def FnPacksBentCardSaid : Prop := Claim7.holds Tryz.pinned (.plain (OpenSpec.ofChange fnPacksBentSpec)) fnPacksBentCard

/-- THE TIED CARD OF 'laws.FnExactPlanOf'. -/
def fnExactPlanOfCard : Claim7 := { stood := { row := fnExactPlanOfRow, standIns := [], harness := (true, "64123304e32161fbc38d25ab5148e26e3e4d11cc6757e5d6d6acebfe44a2e48c"), looks := false }, kinds := [], alts := [], laidByText := true, laidKinds := [.data, .data, .data, .data, .pinned], laidTests := true, laidLooks := .later }
def FnExactPlanOfCardSaid : Prop := Claim7.holds Tryz.pinned (.plain (OpenSpec.ofChange fnExactPlanOfSpec)) fnExactPlanOfCard

/-- THE SECOND FORM's CARD OF 'laws.FnExactSolves'. -/
def fnExactSolvesUptoCard : Claim7 := { stood := { row := fnExactSolvesUptoRow, standIns := [], harness := (true, "64123304e32161fbc38d25ab5148e26e3e4d11cc6757e5d6d6acebfe44a2e48c"), looks := false }, kinds := [], alts := [], laidByText := true, laidKinds := [.data, .data, .data, .data, .pinned], laidTests := true, laidLooks := .later }
def FnExactSolvesUptoCardSaid : Prop := Claim7.holds Tryz.pinned (.plain (OpenSpec.upto fnExactSolvesSpec)) fnExactSolvesUptoCard

/-- THE SECOND FORM's CARD OF 'laws.FnExactStale'. -/
def fnExactStaleUptoCard : Claim7 := { stood := { row := fnExactStaleUptoRow, standIns := [], harness := (true, "64123304e32161fbc38d25ab5148e26e3e4d11cc6757e5d6d6acebfe44a2e48c"), looks := false }, kinds := [], alts := [], laidByText := true, laidKinds := [.data, .data, .data, .data, .pinned], laidTests := true, laidLooks := .later }
def FnExactStaleUptoCardSaid : Prop := Claim7.holds Tryz.pinned (.plain (OpenSpec.upto fnExactStaleSpec)) fnExactStaleUptoCard

/-- THE SECOND FORM's CARD OF 'laws.FnExactFiltered'. -/
def fnExactFilteredUptoCard : Claim7 := { stood := { row := fnExactFilteredUptoRow, standIns := [], harness := (true, "64123304e32161fbc38d25ab5148e26e3e4d11cc6757e5d6d6acebfe44a2e48c"), looks := false }, kinds := [], alts := [], laidByText := true, laidKinds := [.data, .data, .data, .data, .pinned], laidTests := true, laidLooks := .later }
def FnExactFilteredUptoCardSaid : Prop := Claim7.holds Tryz.pinned (.plain (OpenSpec.upto fnExactFilteredSpec)) fnExactFilteredUptoCard

/-- THE SECOND FORM's CARD OF 'laws.FnPacksBent'. -/
def fnPacksBentUptoCard : Claim7 := { stood := { row := fnPacksBentUptoRow, standIns := [], harness := (true, "64123304e32161fbc38d25ab5148e26e3e4d11cc6757e5d6d6acebfe44a2e48c"), looks := false }, kinds := [], alts := [], laidByText := true, laidKinds := [.data, .data, .data, .data, .pinned], laidTests := true, laidLooks := .later }
def FnPacksBentUptoCardSaid : Prop := Claim7.holds Tryz.pinned (.plain (OpenSpec.upto fnPacksBentSpec)) fnPacksBentUptoCard

/-- THE SECOND FORM's CARD OF 'laws.FnExactPlanOf'. -/
def fnExactPlanOfUptoCard : Claim7 := { stood := { row := fnExactPlanOfUptoRow, standIns := [], harness := (true, "64123304e32161fbc38d25ab5148e26e3e4d11cc6757e5d6d6acebfe44a2e48c"), looks := false }, kinds := [], alts := [], laidByText := true, laidKinds := [.data, .data, .data, .data, .pinned], laidTests := true, laidLooks := .later }
def FnExactPlanOfUptoCardSaid : Prop := Claim7.holds Tryz.pinned (.plain (OpenSpec.upto fnExactPlanOfSpec)) fnExactPlanOfUptoCard
end Rows
end Go.Proofs.YtholafaogipaiaaGreatDoor
