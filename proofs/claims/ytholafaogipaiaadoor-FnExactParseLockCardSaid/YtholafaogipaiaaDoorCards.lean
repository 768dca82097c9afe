/-
  DERIVED. GIVEN WITH THE SEED: THE CARDS: each row of YtholafaogipaiaaDoorRows.lean that lists a variable, with what it lists TIED to the program's text (the seventh form; the later family's looks); each row that meets fmt, with fmt's text TOLD by the authors' own Lean function (tested against real Go, not proved from fmt's source: count such statements apart). THE CARD IS WHAT COUNTS. Prove the row's statement (the work); the ties are given (YtholafaogipaiaaDoorTie.lean); close each card by the builder's one call (the guide's Derived/Test/ToyasCard.lean, 'card_holds'). Laid BY PROGRAM, IN A SANDBOX (cutbox-door.mjs). By AI agents, Wed Nov 11 2026. No macro, syntax, notation, axiom, sorry.
-/
import Derived.Test.YtholafaogipaiaaDoorRows
import GoSem.ClaimSeven
namespace Go.Proofs.YtholafaogipaiaaDoor
namespace Rows

/-- THE TIED CARD OF 'laws.FnExactParseLock'. -/
def fnExactParseLockCard : Claim7 := { stood := { row := fnExactParseLockRow, standIns := [], harness := (true, "411e7d433cec63ef594aedbac1b54780d063ffac7dc3e2f56ba08d1d74d6dc5b"), looks := false }, kinds := [], alts := [], laidByText := true, laidKinds := [.data, .data, .data, .data, .pinned], laidTests := true, laidLooks := .later }
def FnExactParseLockCardSaid : Prop := Claim7.holds Tryd.pinned (.plain (OpenSpec.ofChange fnExactParseLockSpec)) fnExactParseLockCard

/-- THE SECOND FORM's CARD OF 'laws.FnExactParseLock'. -/
def fnExactParseLockUptoCard : Claim7 := { stood := { row := fnExactParseLockUptoRow, standIns := [], harness := (true, "411e7d433cec63ef594aedbac1b54780d063ffac7dc3e2f56ba08d1d74d6dc5b"), looks := false }, kinds := [], alts := [], laidByText := true, laidKinds := [.data, .data, .data, .data, .pinned], laidTests := true, laidLooks := .later }
def FnExactParseLockUptoCardSaid : Prop := Claim7.holds Tryd.pinned (.plain (OpenSpec.upto fnExactParseLockSpec)) fnExactParseLockUptoCard
end Rows
end Go.Proofs.YtholafaogipaiaaDoor
