/-
  DERIVED. GIVEN WITH THE SEED: THE CARDS: each row of YtaigckobkcihgaaDoorRows.lean that lists a variable, with what it lists TIED to the program's text (the seventh form; the later family's looks); each row that meets fmt, with fmt's text TOLD by the authors' own Lean function (tested against real Go, not proved from fmt's source: count such statements apart). THE CARD IS WHAT COUNTS. Prove the row's statement (the work); the ties are given (YtaigckobkcihgaaDoorTie.lean); close each card by the builder's one call (the guide's Derived/Test/ToyasCard.lean, 'card_holds'). Laid BY PROGRAM, IN A SANDBOX (cutbox-door.mjs). By AI agents, Wed Nov 11 2026. No macro, syntax, notation, axiom, sorry.
-/
import Derived.Test.YtaigckobkcihgaaDoorRows
import GoSem.ClaimSeven
namespace Go.Proofs.YtaigckobkcihgaaDoor
namespace Rows

/-- THE TIED CARD OF 'laws.FnExactRuleOf'. -/
def fnExactRuleOfCard : Claim7 := { stood := { row := fnExactRuleOfRow, standIns := [], harness := (true, "7f80237b330905d02dac101b92eb5c350c65bac29c33e4f0fb3cda6de72503aa"), looks := false }, kinds := [], alts := [], laidByText := true, laidKinds := [.data, .pinned], laidTests := true, laidLooks := .later }
def FnExactRuleOfCardSaid : Prop := Claim7.holds Tryd.pinned (.plain (OpenSpec.ofChange fnExactRuleOfSpec)) fnExactRuleOfCard

/-- THE TIED CARD OF 'laws.FnExactParseLock'. -/
def fnExactParseLockCard : Claim7 := { stood := { row := fnExactParseLockRow, standIns := [], harness := (true, "7f80237b330905d02dac101b92eb5c350c65bac29c33e4f0fb3cda6de72503aa"), looks := false }, kinds := [], alts := [], laidByText := true, laidKinds := [.data, .data, .data, .data, .pinned], laidTests := true, laidLooks := .later }
def FnExactParseLockCardSaid : Prop := Claim7.holds Tryd.pinned (.plain (OpenSpec.ofChange fnExactParseLockSpec)) fnExactParseLockCard

/-- THE TIED CARD OF 'laws.FnExactFilterOk'. -/
def fnExactFilterOkCard : Claim7 := { stood := { row := fnExactFilterOkRow, standIns := [], harness := (true, "7f80237b330905d02dac101b92eb5c350c65bac29c33e4f0fb3cda6de72503aa"), looks := false }, kinds := [], alts := [], laidByText := true, laidKinds := [.data, .pinned], laidTests := true, laidLooks := .later }
def FnExactFilterOkCardSaid : Prop := Claim7.holds Tryd.pinned (.plain (OpenSpec.ofChange fnExactFilterOkSpec)) fnExactFilterOkCard

/-- THE TIED CARD OF 'laws.FnMades'. -/
def fnMadesCard : Claim7 := { stood := { row := fnMadesRow, standIns := [], harness := (true, "7f80237b330905d02dac101b92eb5c350c65bac29c33e4f0fb3cda6de72503aa"), looks := false }, kinds := [], alts := [], laidByText := true, laidKinds := [.data, .data, .data, .data, .pinned], laidTests := true, laidLooks := .later }
def FnMadesCardSaid : Prop := Claim7.holds Tryd.pinned (.plain (OpenSpec.ofChange fnMadesSpec)) fnMadesCard

/-- THE TIED CARD OF 'laws.FnMakes'. -/
def fnMakesCard : Claim7 := { stood := { row := fnMakesRow, standIns := [], harness := (true, "7f80237b330905d02dac101b92eb5c350c65bac29c33e4f0fb3cda6de72503aa"), looks := false }, kinds := [], alts := [], laidByText := true, laidKinds := [.data, .pinned], laidTests := true, laidLooks := .later }
def FnMakesCardSaid : Prop := Claim7.holds Tryd.pinned (.plain (OpenSpec.ofChange fnMakesSpec)) fnMakesCard

/-- THE SECOND FORM's CARD OF 'laws.FnExactRuleOf'. -/
def fnExactRuleOfUptoCard : Claim7 := { stood := { row := fnExactRuleOfUptoRow, standIns := [], harness := (true, "7f80237b330905d02dac101b92eb5c350c65bac29c33e4f0fb3cda6de72503aa"), looks := false }, kinds := [], alts := [], laidByText := true, laidKinds := [.data, .pinned], laidTests := true, laidLooks := .later }
def FnExactRuleOfUptoCardSaid : Prop := Claim7.holds Tryd.pinned (.plain (OpenSpec.upto fnExactRuleOfSpec)) fnExactRuleOfUptoCard

/-- THE SECOND FORM's CARD OF 'laws.FnExactParseLock'. -/
def fnExactParseLockUptoCard : Claim7 := { stood := { row := fnExactParseLockUptoRow, standIns := [], harness := (true, "7f80237b330905d02dac101b92eb5c350c65bac29c33e4f0fb3cda6de72503aa"), looks := false }, kinds := [], alts := [], laidByText := true, laidKinds := [.data, .data, .data, .data, .pinned], laidTests := true, laidLooks := .later }
def FnExactParseLockUptoCardSaid : Prop := Claim7.holds Tryd.pinned (.plain (OpenSpec.upto fnExactParseLockSpec)) fnExactParseLockUptoCard

/-- THE SECOND FORM's CARD OF 'laws.FnExactFilterOk'. -/
def fnExactFilterOkUptoCard : Claim7 := { stood := { row := fnExactFilterOkUptoRow, standIns := [], harness := (true, "7f80237b330905d02dac101b92eb5c350c65bac29c33e4f0fb3cda6de72503aa"), looks := false }, kinds := [], alts := [], laidByText := true, laidKinds := [.data, .pinned], laidTests := true, laidLooks := .later }
def FnExactFilterOkUptoCardSaid : Prop := Claim7.holds Tryd.pinned (.plain (OpenSpec.upto fnExactFilterOkSpec)) fnExactFilterOkUptoCard

/-- THE SECOND FORM's CARD OF 'laws.FnMades'. -/
def fnMadesUptoCard : Claim7 := { stood := { row := fnMadesUptoRow, standIns := [], harness := (true, "7f80237b330905d02dac101b92eb5c350c65bac29c33e4f0fb3cda6de72503aa"), looks := false }, kinds := [], alts := [], laidByText := true, laidKinds := [.data, .data, .data, .data, .pinned], laidTests := true, laidLooks := .later }
def FnMadesUptoCardSaid : Prop := Claim7.holds Tryd.pinned (.plain (OpenSpec.upto fnMadesSpec)) fnMadesUptoCard

/-- THE SECOND FORM's CARD OF 'laws.FnMakes'. -/
def fnMakesUptoCard : Claim7 := { stood := { row := fnMakesUptoRow, standIns := [], harness := (true, "7f80237b330905d02dac101b92eb5c350c65bac29c33e4f0fb3cda6de72503aa"), looks := false }, kinds := [], alts := [], laidByText := true, laidKinds := [.data, .pinned], laidTests := true, laidLooks := .later }
def FnMakesUptoCardSaid : Prop := Claim7.holds Tryd.pinned (.plain (OpenSpec.upto fnMakesSpec)) fnMakesUptoCard
end Rows
end Go.Proofs.YtaigckobkcihgaaDoor
