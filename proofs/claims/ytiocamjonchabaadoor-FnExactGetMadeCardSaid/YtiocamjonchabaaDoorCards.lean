/-
  DERIVED. GIVEN WITH THE SEED: THE CARDS: each row of YtiocamjonchabaaDoorRows.lean that lists a variable, with what it lists TIED to the program's text (the seventh form; the later family's looks); each row that meets fmt, with fmt's text TOLD by the authors' own Lean function (tested against real Go, not proved from fmt's source: count such statements apart). THE CARD IS WHAT COUNTS. Prove the row's statement (the work); the ties are given (YtiocamjonchabaaDoorTie.lean); close each card by the builder's one call (the guide's Derived/Test/ToyasCard.lean, 'card_holds'). Laid BY PROGRAM, IN A SANDBOX (cutbox-door.mjs). By AI agents, Wed Nov 11 2026. No macro, syntax, notation, axiom, sorry.
-/
import Derived.Test.YtiocamjonchabaaDoorRows
import GoSem.ClaimSeven
namespace Go.Proofs.YtiocamjonchabaaDoor
namespace Rows

/-- THE TIED CARD OF 'laws.FnExactActOk'. -/
def fnExactActOkCard : Claim7 := { stood := { row := fnExactActOkRow, standIns := [], harness := (true, "3a071d04db1281024e8fce3ae89134f5b7d5ae173b55ac3ee3dda22e1d2428bc"), looks := false }, kinds := [], alts := [], laidByText := true, laidKinds := [.data, .pinned], laidTests := true, laidLooks := .later }
def FnExactActOkCardSaid : Prop := Claim7.holds Tryd.pinned (.plain (OpenSpec.ofChange fnExactActOkSpec)) fnExactActOkCard

/-- THE TIED CARD OF 'laws.FnExactPutMade'. -/
def fnExactPutMadeCard : Claim7 := { stood := { row := fnExactPutMadeRow, standIns := [], harness := (true, "3a071d04db1281024e8fce3ae89134f5b7d5ae173b55ac3ee3dda22e1d2428bc"), looks := false }, kinds := [], alts := [], laidByText := true, laidKinds := [.data, .data, .data], laidTests := true, laidLooks := .later }
def FnExactPutMadeCardSaid : Prop := Claim7.holds Tryd.pinned (.plain (OpenSpec.ofChange fnExactPutMadeSpec)) fnExactPutMadeCard

/-- THE TIED CARD OF 'laws.FnExactGetMade'. -/
def fnExactGetMadeCard : Claim7 := { stood := { row := fnExactGetMadeRow, standIns := [], harness := (true, "3a071d04db1281024e8fce3ae89134f5b7d5ae173b55ac3ee3dda22e1d2428bc"), looks := false }, kinds := [], alts := [], laidByText := true, laidKinds := [.data, .data, .data], laidTests := true, laidLooks := .later }
def FnExactGetMadeCardSaid : Prop := Claim7.holds Tryd.pinned (.plain (OpenSpec.ofChange fnExactGetMadeSpec)) fnExactGetMadeCard

/-- THE TIED CARD OF 'laws.FnExactMadeOk'. -/
def fnExactMadeOkCard : Claim7 := { stood := { row := fnExactMadeOkRow, standIns := [], harness := (true, "3a071d04db1281024e8fce3ae89134f5b7d5ae173b55ac3ee3dda22e1d2428bc"), looks := false }, kinds := [], alts := [], laidByText := true, laidKinds := [.data, .pinned], laidTests := true, laidLooks := .later }
def FnExactMadeOkCardSaid : Prop := Claim7.holds Tryd.pinned (.plain (OpenSpec.ofChange fnExactMadeOkSpec)) fnExactMadeOkCard

/-- THE TIED CARD OF 'laws.FnExactLockText'. -/
def fnExactLockTextCard : Claim7 := { stood := { row := fnExactLockTextRow, standIns := [], harness := (true, "3a071d04db1281024e8fce3ae89134f5b7d5ae173b55ac3ee3dda22e1d2428bc"), looks := false }, kinds := [], alts := [], laidByText := true, laidKinds := [.data, .data, .data], laidTests := true, laidLooks := .later }
def FnExactLockTextCardSaid : Prop := Claim7.holds Tryd.pinned (.plain (OpenSpec.ofChange fnExactLockTextSpec)) fnExactLockTextCard

/-- THE TIED CARD OF 'laws.FnExactRulesOk'. -/
def fnExactRulesOkCard : Claim7 := { stood := { row := fnExactRulesOkRow, standIns := [], harness := (true, "3a071d04db1281024e8fce3ae89134f5b7d5ae173b55ac3ee3dda22e1d2428bc"), looks := false }, kinds := [], alts := [], laidByText := true, laidKinds := [.data, .pinned], laidTests := true, laidLooks := .later }
def FnExactRulesOkCardSaid : Prop := Claim7.holds Tryd.pinned (.plain (OpenSpec.ofChange fnExactRulesOkSpec)) fnExactRulesOkCard

/-- THE TIED CARD OF 'laws.FnExactKeyOf'. -/
def fnExactKeyOfCard : Claim7 := { stood := { row := fnExactKeyOfRow, standIns := [], harness := (true, "3a071d04db1281024e8fce3ae89134f5b7d5ae173b55ac3ee3dda22e1d2428bc"), looks := false }, kinds := [], alts := [], laidByText := true, laidKinds := [.data, .data, .data], laidTests := true, laidLooks := .later }
def FnExactKeyOfCardSaid : Prop := Claim7.holds Tryd.pinned (.plain (OpenSpec.ofChange fnExactKeyOfSpec)) fnExactKeyOfCard

/-- THE SECOND FORM's CARD OF 'laws.FnExactActOk'. -/
def fnExactActOkUptoCard : Claim7 := { stood := { row := fnExactActOkUptoRow, standIns := [], harness := (true, "3a071d04db1281024e8fce3ae89134f5b7d5ae173b55ac3ee3dda22e1d2428bc"), looks := false }, kinds := [], alts := [], laidByText := true, laidKinds := [.data, .pinned], laidTests := true, laidLooks := .later }
def FnExactActOkUptoCardSaid : Prop := Claim7.holds Tryd.pinned (.plain (OpenSpec.upto fnExactActOkSpec)) fnExactActOkUptoCard

/-- THE SECOND FORM's CARD OF 'laws.FnExactPutMade'. -/
def fnExactPutMadeUptoCard : Claim7 := { stood := { row := fnExactPutMadeUptoRow, standIns := [], harness := (true, "3a071d04db1281024e8fce3ae89134f5b7d5ae173b55ac3ee3dda22e1d2428bc"), looks := false }, kinds := [], alts := [], laidByText := true, laidKinds := [.data, .data, .data], laidTests := true, laidLooks := .later }
def FnExactPutMadeUptoCardSaid : Prop := Claim7.holds Tryd.pinned (.plain (OpenSpec.upto fnExactPutMadeSpec)) fnExactPutMadeUptoCard

/-- THE SECOND FORM's CARD OF 'laws.FnExactGetMade'. -/
def fnExactGetMadeUptoCard : Claim7 := { stood := { row := fnExactGetMadeUptoRow, standIns := [], harness := (true, "3a071d04db1281024e8fce3ae89134f5b7d5ae173b55ac3ee3dda22e1d2428bc"), looks := false }, kinds := [], alts := [], laidByText := true, laidKinds := [.data, .data, .data], laidTests := true, laidLooks := .later }
def FnExactGetMadeUptoCardSaid : Prop := Claim7.holds Tryd.pinned (.plain (OpenSpec.upto fnExactGetMadeSpec)) fnExactGetMadeUptoCard

/-- THE SECOND FORM's CARD OF 'laws.FnExactMadeOk'. -/
def fnExactMadeOkUptoCard : Claim7 := { stood := { row := fnExactMadeOkUptoRow, standIns := [], harness := (true, "3a071d04db1281024e8fce3ae89134f5b7d5ae173b55ac3ee3dda22e1d2428bc"), looks := false }, kinds := [], alts := [], laidByText := true, laidKinds := [.data, .pinned], laidTests := true, laidLooks := .later }
def FnExactMadeOkUptoCardSaid : Prop := Claim7.holds Tryd.pinned (.plain (OpenSpec.upto fnExactMadeOkSpec)) fnExactMadeOkUptoCard

/-- THE SECOND FORM's CARD OF 'laws.FnExactLockText'. -/
def fnExactLockTextUptoCard : Claim7 := { stood := { row := fnExactLockTextUptoRow, standIns := [], harness := (true, "3a071d04db1281024e8fce3ae89134f5b7d5ae173b55ac3ee3dda22e1d2428bc"), looks := false }, kinds := [], alts := [], laidByText := true, laidKinds := [.data, .data, .data], laidTests := true, laidLooks := .later }
def FnExactLockTextUptoCardSaid : Prop := Claim7.holds Tryd.pinned (.plain (OpenSpec.upto fnExactLockTextSpec)) fnExactLockTextUptoCard

/-- THE SECOND FORM's CARD OF 'laws.FnExactRulesOk'. -/
def fnExactRulesOkUptoCard : Claim7 := { stood := { row := fnExactRulesOkUptoRow, standIns := [], harness := (true, "3a071d04db1281024e8fce3ae89134f5b7d5ae173b55ac3ee3dda22e1d2428bc"), looks := false }, kinds := [], alts := [], laidByText := true, laidKinds := [.data, .pinned], laidTests := true, laidLooks := .later }
def FnExactRulesOkUptoCardSaid : Prop := Claim7.holds Tryd.pinned (.plain (OpenSpec.upto fnExactRulesOkSpec)) fnExactRulesOkUptoCard

/-- THE SECOND FORM's CARD OF 'laws.FnExactKeyOf'. -/
def fnExactKeyOfUptoCard : Claim7 := { stood := { row := fnExactKeyOfUptoRow, standIns := [], harness := (true, "3a071d04db1281024e8fce3ae89134f5b7d5ae173b55ac3ee3dda22e1d2428bc"), looks := false }, kinds := [], alts := [], laidByText := true, laidKinds := [.data, .data, .data], laidTests := true, laidLooks := .later }
def FnExactKeyOfUptoCardSaid : Prop := Claim7.holds Tryd.pinned (.plain (OpenSpec.upto fnExactKeyOfSpec)) fnExactKeyOfUptoCard
end Rows
end Go.Proofs.YtiocamjonchabaaDoor
