/-
  No cell of these rows narrows 'for every input' (looked for: loops, veiled, ifaces, maps, wideKeys, modest, calm, conditions, laid).
  DERIVED. THE GIVEN ROWS OF THIS SEAT. 4 by the template 'for every input the law returns true; each argument reads behind the call as it read before'; 0 by the template 'total and deterministic' (their statements: YtaigckobkcihgaaTotals.lean).
  GIVEN WITH THE SEED: the statements are not yours to turn. If you find one false, say at which input.
  Laid BY PROGRAM, IN A SANDBOX (cutbox-rows.mjs): the forced cells as the released guide's own fill.sh prints them over the translation 417c2d6c001a73c3… (all of the seat's roots in one cut). By AI agents, Wed Nov 11 2026. No macro, syntax, notation, axiom, sorry.
-/
import Derived.Test.YtaigckobkcihgaaChecked
import GoSem.Claim
import GoSem.ClaimJoined
import GoSem.ClaimMapViews
import Derived.JoinedTies
import Derived.KernelRfl
namespace Go.Proofs.Ytaigckobkcihgaa
/- THE CELL 'sum', in the pinned program and in every row, IS THE sha256 OF THE DUMP (.gsa) THAT YtaigckobkcihgaaProg.lean LOADS. Nothing in Lean hashes anything: it is a label: what it is worth is what the hold of that sum in a sandbox is worth. -/
noncomputable def Try.pinned : Pinned := { name := "ytaigckobkcihgaa", sum := "417c2d6c001a73c3f6972686d778a65973d858b42554df371d389e3f32e795a9", checked := Try.checked }
namespace Rows
def none {H : Type} : Left H := { results := [], args := [] }

/-- 'laws.FnExactDeepUses': WHATEVER THE INPUT: true; the input reads as it did. -/
def fnExactDeepUsesSpec : ChangeSpec := { name := "fnExactDeepUses", fn := fun _ => fun
  | [d1, d2] => { results := [.lit (.bool true)], args := [d1, d2] }
  | _ => none }
def fnExactDeepUsesRow : OpenClaim := { program := "ytaigckobkcihgaa", sum := "417c2d6c001a73c3f6972686d778a65973d858b42554df371d389e3f32e795a9", func := "loop.example/g00464/laws.FnExactDeepUses", spec := "fnExactDeepUses", unfollowed := true, recurses := true, apart := false }
def FnExactDeepUsesSaid : Prop := fnExactDeepUsesRow.holds Try.pinned (OpenSpec.ofChange fnExactDeepUsesSpec)

/-- ITS FALSE NEIGHBOUR: 'it returns false'. Refute it at one input. -/
def fnExactDeepUsesWrong : ChangeSpec := { name := "fnExactDeepUses", fn := fun _ => fun
  | [d1, d2] => { results := [.lit (.bool false)], args := [d1, d2] }
  | _ => none }
def FnExactDeepUsesWrongFalsely : Prop := fnExactDeepUsesRow.holds Try.pinned (OpenSpec.ofChange fnExactDeepUsesWrong)

/-- 'laws.FnExactDeepUsedBy': WHATEVER THE INPUT: true; the input reads as it did. -/
def fnExactDeepUsedBySpec : ChangeSpec := { name := "fnExactDeepUsedBy", fn := fun _ => fun
  | [d1, d2] => { results := [.lit (.bool true)], args := [d1, d2] }
  | _ => none }
def fnExactDeepUsedByRow : OpenClaim := { program := "ytaigckobkcihgaa", sum := "417c2d6c001a73c3f6972686d778a65973d858b42554df371d389e3f32e795a9", func := "loop.example/g00464/laws.FnExactDeepUsedBy", spec := "fnExactDeepUsedBy", unfollowed := true, recurses := true, apart := false }
def FnExactDeepUsedBySaid : Prop := fnExactDeepUsedByRow.holds Try.pinned (OpenSpec.ofChange fnExactDeepUsedBySpec)

/-- ITS FALSE NEIGHBOUR: 'it returns false'. Refute it at one input. -/
def fnExactDeepUsedByWrong : ChangeSpec := { name := "fnExactDeepUsedBy", fn := fun _ => fun
  | [d1, d2] => { results := [.lit (.bool false)], args := [d1, d2] }
  | _ => none }
def FnExactDeepUsedByWrongFalsely : Prop := fnExactDeepUsedByRow.holds Try.pinned (OpenSpec.ofChange fnExactDeepUsedByWrong)

/-- 'laws.FnExactRing': WHATEVER THE INPUT: true; the input reads as it did. -/
def fnExactRingSpec : ChangeSpec := { name := "fnExactRing", fn := fun _ => fun
  | [d] => { results := [.lit (.bool true)], args := [d] }
  | _ => none }
def fnExactRingRow : OpenClaim := { program := "ytaigckobkcihgaa", sum := "417c2d6c001a73c3f6972686d778a65973d858b42554df371d389e3f32e795a9", func := "loop.example/g00464/laws.FnExactRing", spec := "fnExactRing", unfollowed := true, recurses := true, apart := false }
def FnExactRingSaid : Prop := fnExactRingRow.holds Try.pinned (OpenSpec.ofChange fnExactRingSpec)

/-- ITS FALSE NEIGHBOUR: 'it returns false'. Refute it at one input. -/
def fnExactRingWrong : ChangeSpec := { name := "fnExactRing", fn := fun _ => fun
  | [d] => { results := [.lit (.bool false)], args := [d] }
  | _ => none }
def FnExactRingWrongFalsely : Prop := fnExactRingRow.holds Try.pinned (OpenSpec.ofChange fnExactRingWrong)

/-- 'laws.FnExactWaitsFor': WHATEVER THE INPUT: true; the input reads as it did. -/
def fnExactWaitsForSpec : ChangeSpec := { name := "fnExactWaitsFor", fn := fun _ => fun
  | [d1, d2, d3, d4] => { results := [.lit (.bool true)], args := [d1, d2, d3, d4] }
  | _ => none }
def fnExactWaitsForRow : OpenClaim := { program := "ytaigckobkcihgaa", sum := "417c2d6c001a73c3f6972686d778a65973d858b42554df371d389e3f32e795a9", func := "loop.example/g00464/laws.FnExactWaitsFor", spec := "fnExactWaitsFor", inPlace := ["internal/bytealg.IndexByteString", "internal/bytealg.IndexString"], unfollowed := true, recurses := true, named := ["internal/bytealg.MaxLen"], apart := false }
def FnExactWaitsForSaid : Prop := fnExactWaitsForRow.holds Try.pinned (OpenSpec.ofChange fnExactWaitsForSpec)

/-- ITS FALSE NEIGHBOUR: 'it returns false'. Refute it at one input. -/
def fnExactWaitsForWrong : ChangeSpec := { name := "fnExactWaitsFor", fn := fun _ => fun
  | [d1, d2, d3, d4] => { results := [.lit (.bool false)], args := [d1, d2, d3, d4] }
  | _ => none }
def FnExactWaitsForWrongFalsely : Prop := fnExactWaitsForRow.holds Try.pinned (OpenSpec.ofChange fnExactWaitsForWrong)

/- THE SECOND FORM. 'bulk': how many values and letters a reading holds, each counted each time it is reached (what is shared counts as often as it is met; a slice's spare places count too). A statement '..UptoSaid' is the law's where the arguments, and the package variables that the reading takes, are together of bulk at most 1048576: NARROWER than '..Said'. Prove '..Said' where nothing that the law and all that it calls make is longer than what came in: it says more and counts as full. Else prove '..UptoSaid'. A law counts once. -/
mutual
def uptoBulk {H : Type} : DataW H → Nat
  | .lit (.string bytes) => bytes.length + 1
  | .lit _ => 1
  | .nil => 1
  | .ptr d => uptoBulk d + 1
  | .slice elems spare => uptoBulkAll elems + uptoBulkAll spare + 1
  | .agg parts => uptoBulkAll parts + 1
  | .iface _ d => uptoBulk d + 1
  | .map entries => uptoBulkEntries entries + 1
  | .held _ => 1
def uptoBulkAll {H : Type} : List (DataW H) → Nat
  | [] => 0
  | d :: r => uptoBulk d + uptoBulkAll r
def uptoBulkEntries {H : Type} : List (Lit × DataW H) → Nat
  | [] => 0
  | x :: r => uptoBulkEntry x + uptoBulkEntries r
def uptoBulkEntry {H : Type} : Lit × DataW H → Nat
  | (.string bytes, d) => bytes.length + uptoBulk d + 1
  | (_, d) => uptoBulk d + 1
 end
def uptoSmall : (H : Type) → List (DataW H) → Bool := fun _ ds => decide (uptoBulkAll ds ≤ 1048576)
def OpenSpec.upto (s : _root_.Go.ChangeSpec) : _root_.Go.OpenSpec := { _root_.Go.OpenSpec.ofChange s with cond := some uptoSmall }

/-- 'laws.FnExactDeepUses', WHERE WHAT IT READS IS OF BULK AT MOST 1048576: true; the input reads as it did. -/
def fnExactDeepUsesUptoRow : OpenClaim := { program := "ytaigckobkcihgaa", sum := "417c2d6c001a73c3f6972686d778a65973d858b42554df371d389e3f32e795a9", func := "loop.example/g00464/laws.FnExactDeepUses", spec := "fnExactDeepUses", unfollowed := true, recurses := true, apart := false, narrowed := true }
def FnExactDeepUsesUptoSaid : Prop := fnExactDeepUsesUptoRow.holds Try.pinned (OpenSpec.upto fnExactDeepUsesSpec)

/-- 'laws.FnExactDeepUsedBy', WHERE WHAT IT READS IS OF BULK AT MOST 1048576: true; the input reads as it did. -/
def fnExactDeepUsedByUptoRow : OpenClaim := { program := "ytaigckobkcihgaa", sum := "417c2d6c001a73c3f6972686d778a65973d858b42554df371d389e3f32e795a9", func := "loop.example/g00464/laws.FnExactDeepUsedBy", spec := "fnExactDeepUsedBy", unfollowed := true, recurses := true, apart := false, narrowed := true }
def FnExactDeepUsedByUptoSaid : Prop := fnExactDeepUsedByUptoRow.holds Try.pinned (OpenSpec.upto fnExactDeepUsedBySpec)

/-- 'laws.FnExactRing', WHERE WHAT IT READS IS OF BULK AT MOST 1048576: true; the input reads as it did. -/
def fnExactRingUptoRow : OpenClaim := { program := "ytaigckobkcihgaa", sum := "417c2d6c001a73c3f6972686d778a65973d858b42554df371d389e3f32e795a9", func := "loop.example/g00464/laws.FnExactRing", spec := "fnExactRing", unfollowed := true, recurses := true, apart := false, narrowed := true }
def FnExactRingUptoSaid : Prop := fnExactRingUptoRow.holds Try.pinned (OpenSpec.upto fnExactRingSpec)

/-- 'laws.FnExactWaitsFor', WHERE WHAT IT READS IS OF BULK AT MOST 1048576: true; the input reads as it did. -/
def fnExactWaitsForUptoRow : OpenClaim := { program := "ytaigckobkcihgaa", sum := "417c2d6c001a73c3f6972686d778a65973d858b42554df371d389e3f32e795a9", func := "loop.example/g00464/laws.FnExactWaitsFor", spec := "fnExactWaitsFor", inPlace := ["internal/bytealg.IndexByteString", "internal/bytealg.IndexString"], unfollowed := true, recurses := true, named := ["internal/bytealg.MaxLen"], apart := false, narrowed := true }
def FnExactWaitsForUptoSaid : Prop := fnExactWaitsForUptoRow.holds Try.pinned (OpenSpec.upto fnExactWaitsForSpec)

end Rows
end Go.Proofs.Ytaigckobkcihgaa
