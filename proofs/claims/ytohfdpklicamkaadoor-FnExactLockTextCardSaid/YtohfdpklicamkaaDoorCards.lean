/-
  DERIVED. GIVEN WITH THE SEED: THE CARDS: each row of YtohfdpklicamkaaDoorRows.lean that lists a variable, with what it lists TIED to the program's text (the seventh form; the later family's looks); each row that meets fmt, with fmt's text TOLD by the authors' own Lean function (tested against real Go, not proved from fmt's source: count such statements apart). THE CARD IS WHAT COUNTS. Prove the row's statement (the work); the ties are given (YtohfdpklicamkaaDoorTie.lean); close each card by the builder's one call (the guide's Derived/Test/ToyasCard.lean, 'card_holds'). Laid BY PROGRAM, IN A SANDBOX (cutbox-door.mjs). By AI agents, Wed Nov 11 2026. No macro, syntax, notation, axiom, sorry.
-/
import Derived.Test.YtohfdpklicamkaaDoorRows
import GoSem.ClaimSeven
namespace Go.Proofs.YtohfdpklicamkaaDoor
namespace Rows

/-- THE TIED CARD OF 'laws.FnExactLockText'. -/
def fnExactLockTextCard : Claim7 := { stood := { row := fnExactLockTextRow, standIns := [], harness := (true, "6b083d3daff93eadac5347c7b81669a03240aef8e316ad55ae7195f6f702cd4c"), looks := false }, kinds := [], alts := [], laidByText := true, laidKinds := [.data, .data, .data], laidTests := true, laidLooks := .later }
def FnExactLockTextCardSaid : Prop := Claim7.holds Tryd.pinned (.plain (OpenSpec.ofChange fnExactLockTextSpec)) fnExactLockTextCard

/-- THE TIED CARD OF 'laws.FnExactRuleOf'. -/
def fnExactRuleOfCard : Claim7 := { stood := { row := fnExactRuleOfRow, standIns := [], harness := (true, "6b083d3daff93eadac5347c7b81669a03240aef8e316ad55ae7195f6f702cd4c"), looks := false }, kinds := [], alts := [], laidByText := true, laidKinds := [.data, .pinned], laidTests := true, laidLooks := .later }
def FnExactRuleOfCardSaid : Prop := Claim7.holds Tryd.pinned (.plain (OpenSpec.ofChange fnExactRuleOfSpec)) fnExactRuleOfCard

/-- THE TIED CARD OF 'laws.FnExactParseLock'. -/
def fnExactParseLockCard : Claim7 := { stood := { row := fnExactParseLockRow, standIns := [], harness := (true, "6b083d3daff93eadac5347c7b81669a03240aef8e316ad55ae7195f6f702cd4c"), looks := false }, kinds := [], alts := [], laidByText := true, laidKinds := [.data, .data, .data, .data, .pinned], laidTests := true, laidLooks := .later }
def FnExactParseLockCardSaid : Prop := Claim7.holds Tryd.pinned (.plain (OpenSpec.ofChange fnExactParseLockSpec)) fnExactParseLockCard

/-- THE TIED CARD OF 'laws.FnMades'. -/
def fnMadesCard : Claim7 := { stood := { row := fnMadesRow, standIns := [], harness := (true, "6b083d3daff93eadac5347c7b81669a03240aef8e316ad55ae7195f6f702cd4c"), looks := false }, kinds := [], alts := [], laidByText := true, laidKinds := [.data, .data, .data, .data, .pinned], laidTests := true, laidLooks := .later }
def FnMadesCardSaid : Prop := Claim7.holds Tryd.pinned (.plain (OpenSpec.ofChange fnMadesSpec)) fnMadesCard

/-- THE TIED CARD OF 'laws.FnMakes'. -/
def fnMakesCard : Claim7 := { stood := { row := fnMakesRow, standIns := [], harness := (true, "6b083d3daff93eadac5347c7b81669a03240aef8e316ad55ae7195f6f702cd4c"), looks := false }, kinds := [], alts := [], laidByText := true, laidKinds := [.data, .pinned], laidTests := true, laidLooks := .later }
def FnMakesCardSaid : Prop := Claim7.holds Tryd.pinned (.plain (OpenSpec.ofChange fnMakesSpec)) fnMakesCard

/-- THE SECOND FORM's CARD OF 'laws.FnExactLockText'. -/
def fnExactLockTextUptoCard : Claim7 := { stood := { row := fnExactLockTextUptoRow, standIns := [], harness := (true, "6b083d3daff93eadac5347c7b81669a03240aef8e316ad55ae7195f6f702cd4c"), looks := false }, kinds := [], alts := [], laidByText := true, laidKinds := [.data, .data, .data], laidTests := true, laidLooks := .later }
def FnExactLockTextUptoCardSaid : Prop := Claim7.holds Tryd.pinned (.plain (OpenSpec.upto fnExactLockTextSpec)) fnExactLockTextUptoCard

/-- THE SECOND FORM's CARD OF 'laws.FnExactRuleOf'. -/
def fnExactRuleOfUptoCard : Claim7 := { stood := { row := fnExactRuleOfUptoRow, standIns := [], harness := (true, "6b083d3daff93eadac5347c7b81669a03240aef8e316ad55ae7195f6f702cd4c"), looks := false }, kinds := [], alts := [], laidByText := true, laidKinds := [.data, .pinned], laidTests := true, laidLooks := .later }
def FnExactRuleOfUptoCardSaid : Prop := Claim7.holds Tryd.pinned (.plain (OpenSpec.upto fnExactRuleOfSpec)) fnExactRuleOfUptoCard

/-- THE SECOND FORM's CARD OF 'laws.FnExactParseLock'. -/
def fnExactParseLockUptoCard : Claim7 := { stood := { row := fnExactParseLockUptoRow, standIns := [], harness := (true, "6b083d3daff93eadac5347c7b81669a03240aef8e316ad55ae7195f6f702cd4c"), looks := false }, kinds := [], alts := [], laidByText := true, laidKinds := [.data, .data, .data, .data, .pinned], laidTests := true, laidLooks := .later }
def FnExactParseLockUptoCardSaid : Prop := Claim7.holds Tryd.pinned (.plain (OpenSpec.upto fnExactParseLockSpec)) fnExactParseLockUptoCard

/-- THE SECOND FORM's CARD OF 'laws.FnMades'. -/
def fnMadesUptoCard : Claim7 := { stood := { row := fnMadesUptoRow, standIns := [], harness := (true, "6b083d3daff93eadac5347c7b81669a03240aef8e316ad55ae7195f6f702cd4c"), looks := false }, kinds := [], alts := [], laidByText := true, laidKinds := [.data, .data, .data, .data, .pinned], laidTests := true, laidLooks := .later }
def FnMadesUptoCardSaid : Prop := Claim7.holds Tryd.pinned (.plain (OpenSpec.upto fnMadesSpec)) fnMadesUptoCard

/-- THE SECOND FORM's CARD OF 'laws.FnMakes'. -/
def fnMakesUptoCard : Claim7 := { stood := { row := fnMakesUptoRow, standIns := [], harness := (true, "6b083d3daff93eadac5347c7b81669a03240aef8e316ad55ae7195f6f702cd4c"), looks := false }, kinds := [], alts := [], laidByText := true, laidKinds := [.data, .pinned], laidTests := true, laidLooks := .later }
def FnMakesUptoCardSaid : Prop := Claim7.holds Tryd.pinned (.plain (OpenSpec.upto fnMakesSpec)) fnMakesUptoCard
end Rows
end Go.Proofs.YtohfdpklicamkaaDoor
