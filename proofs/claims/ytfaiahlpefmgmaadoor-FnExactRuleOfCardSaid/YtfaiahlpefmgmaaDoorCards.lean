/-
  DERIVED. GIVEN WITH THE SEED: THE CARDS: each row of YtfaiahlpefmgmaaDoorRows.lean that lists a variable, with what it lists TIED to the program's text (the seventh form; the later family's looks); each row that meets fmt, with fmt's text TOLD by the authors' own Lean function (tested against real Go, not proved from fmt's source: count such statements apart). THE CARD IS WHAT COUNTS. Prove the row's statement (the work); the ties are given (YtfaiahlpefmgmaaDoorTie.lean); close each card by the builder's one call (the guide's Derived/Test/ToyasCard.lean, 'card_holds'). Laid BY PROGRAM, IN A SANDBOX (cutbox-door.mjs). By AI agents, Wed Nov 11 2026. No macro, syntax, notation, axiom, sorry.
-/
import Derived.Test.YtfaiahlpefmgmaaDoorRows
import GoSem.ClaimSeven
namespace Go.Proofs.YtfaiahlpefmgmaaDoor
namespace Rows

/-- THE TIED CARD OF 'laws.FnExactRuleOf'. -/
def fnExactRuleOfCard : Claim7 := { stood := { row := fnExactRuleOfRow, standIns := [], harness := (true, "68925848dcf0d2d9afa5457c6031005616df0a37a6e1d5158e50ce89f9ca9f4f"), looks := false }, kinds := [], alts := [], laidByText := true, laidKinds := [.data, .pinned], laidTests := true, laidLooks := .later }
def FnExactRuleOfCardSaid : Prop := Claim7.holds Tryd.pinned (.plain (OpenSpec.ofChange fnExactRuleOfSpec)) fnExactRuleOfCard

/-- THE SECOND FORM's CARD OF 'laws.FnExactRuleOf'. -/
def fnExactRuleOfUptoCard : Claim7 := { stood := { row := fnExactRuleOfUptoRow, standIns := [], harness := (true, "68925848dcf0d2d9afa5457c6031005616df0a37a6e1d5158e50ce89f9ca9f4f"), looks := false }, kinds := [], alts := [], laidByText := true, laidKinds := [.data, .pinned], laidTests := true, laidLooks := .later }
def FnExactRuleOfUptoCardSaid : Prop := Claim7.holds Tryd.pinned (.plain (OpenSpec.upto fnExactRuleOfSpec)) fnExactRuleOfUptoCard
end Rows
end Go.Proofs.YtfaiahlpefmgmaaDoor
