/-
  No cell of these rows narrows 'for every input' (looked for: loops, veiled, ifaces, maps, wideKeys, modest, calm, conditions, laid).
  DERIVED. THE GIVEN ROWS OF THIS SEAT. 12 by the template 'for every input the law returns true; each argument reads behind the call as it read before'; 0 by the template 'total and deterministic' (their statements: YtkpiaalieeacgaaTotals.lean).
  GIVEN WITH THE SEED: the statements are not yours to turn. If you find one false, say at which input.
  Laid BY PROGRAM, IN A SANDBOX (cutbox-rows.mjs): the forced cells as the released guide's own fill.sh prints them over the translation 9699e438fab151b8… (all of the seat's roots in one cut). By AI agents, Wed Nov 11 2026. No macro, syntax, notation, axiom, sorry.
-/
import Derived.Test.YtkpiaalieeacgaaChecked
import GoSem.Claim
import GoSem.ClaimJoined
import GoSem.ClaimMapViews
import Derived.JoinedTies
import Derived.KernelRfl
namespace Go.Proofs.Ytkpiaalieeacgaa
/- THE CELL 'sum', in the pinned program and in every row, IS THE sha256 OF THE DUMP (.gsa) THAT YtkpiaalieeacgaaProg.lean LOADS. Nothing in Lean hashes anything: it is a label: what it is worth is what the hold of that sum in a sandbox is worth. -/
noncomputable def Try.pinned : Pinned := { name := "ytkpiaalieeacgaa", sum := "9699e438fab151b89b2876633d816a6e40a8ee6a013a56fa473af96c698af7ee", checked := Try.checked }
namespace Rows
def none {H : Type} : Left H := { results := [], args := [] }

/-- 'laws.FnExactTaskName': WHATEVER THE INPUT: true; the input reads as it did. -/
def fnExactTaskNameSpec : ChangeSpec := { name := "fnExactTaskName", fn := fun _ => fun
  | [d1, d2] => { results := [.lit (.bool true)], args := [d1, d2] }
  | _ => none }
def fnExactTaskNameRow : OpenClaim := { program := "ytkpiaalieeacgaa", sum := "9699e438fab151b89b2876633d816a6e40a8ee6a013a56fa473af96c698af7ee", func := "loop.example/g00464/laws.FnExactTaskName", spec := "fnExactTaskName", apart := false }
def FnExactTaskNameSaid : Prop := fnExactTaskNameRow.holds Try.pinned (OpenSpec.ofChange fnExactTaskNameSpec)

/-- ITS FALSE NEIGHBOUR: 'it returns false'. Refute it at one input. -/
def fnExactTaskNameWrong : ChangeSpec := { name := "fnExactTaskName", fn := fun _ => fun
  | [d1, d2] => { results := [.lit (.bool false)], args := [d1, d2] }
  | _ => none }
def FnExactTaskNameWrongFalsely : Prop := fnExactTaskNameRow.holds Try.pinned (OpenSpec.ofChange fnExactTaskNameWrong)

/-- 'laws.FnExactCacheSize': WHATEVER THE INPUT: true; the input reads as it did. -/
def fnExactCacheSizeSpec : ChangeSpec := { name := "fnExactCacheSize", fn := fun _ => fun
  | [d] => { results := [.lit (.bool true)], args := [d] }
  | _ => none }
def fnExactCacheSizeRow : OpenClaim := { program := "ytkpiaalieeacgaa", sum := "9699e438fab151b89b2876633d816a6e40a8ee6a013a56fa473af96c698af7ee", func := "loop.example/g00464/laws.FnExactCacheSize", spec := "fnExactCacheSize", apart := false }
def FnExactCacheSizeSaid : Prop := fnExactCacheSizeRow.holds Try.pinned (OpenSpec.ofChange fnExactCacheSizeSpec)

/-- ITS FALSE NEIGHBOUR: 'it returns false'. Refute it at one input. -/
def fnExactCacheSizeWrong : ChangeSpec := { name := "fnExactCacheSize", fn := fun _ => fun
  | [d] => { results := [.lit (.bool false)], args := [d] }
  | _ => none }
def FnExactCacheSizeWrongFalsely : Prop := fnExactCacheSizeRow.holds Try.pinned (OpenSpec.ofChange fnExactCacheSizeWrong)

/-- 'laws.FnExactSameMade': WHATEVER THE INPUT: true; the input reads as it did. -/
def fnExactSameMadeSpec : ChangeSpec := { name := "fnExactSameMade", fn := fun _ => fun
  | [d1, d2] => { results := [.lit (.bool true)], args := [d1, d2] }
  | _ => none }
def fnExactSameMadeRow : OpenClaim := { program := "ytkpiaalieeacgaa", sum := "9699e438fab151b89b2876633d816a6e40a8ee6a013a56fa473af96c698af7ee", func := "loop.example/g00464/laws.FnExactSameMade", spec := "fnExactSameMade", apart := false }
def FnExactSameMadeSaid : Prop := fnExactSameMadeRow.holds Try.pinned (OpenSpec.ofChange fnExactSameMadeSpec)

/-- ITS FALSE NEIGHBOUR: 'it returns false'. Refute it at one input. -/
def fnExactSameMadeWrong : ChangeSpec := { name := "fnExactSameMade", fn := fun _ => fun
  | [d1, d2] => { results := [.lit (.bool false)], args := [d1, d2] }
  | _ => none }
def FnExactSameMadeWrongFalsely : Prop := fnExactSameMadeRow.holds Try.pinned (OpenSpec.ofChange fnExactSameMadeWrong)

/-- 'laws.FnExactParseTask': WHATEVER THE INPUT: true; the input reads as it did. -/
def fnExactParseTaskSpec : ChangeSpec := { name := "fnExactParseTask", fn := fun _ => fun
  | [d] => { results := [.lit (.bool true)], args := [d] }
  | _ => none }
def fnExactParseTaskRow : OpenClaim := { program := "ytkpiaalieeacgaa", sum := "9699e438fab151b89b2876633d816a6e40a8ee6a013a56fa473af96c698af7ee", func := "loop.example/g00464/laws.FnExactParseTask", spec := "fnExactParseTask", inPlace := ["internal/bytealg.IndexByteString", "internal/bytealg.IndexString"], named := ["internal/bytealg.MaxLen"], apart := false }
def FnExactParseTaskSaid : Prop := fnExactParseTaskRow.holds Try.pinned (OpenSpec.ofChange fnExactParseTaskSpec)

/-- ITS FALSE NEIGHBOUR: 'it returns false'. Refute it at one input. -/
def fnExactParseTaskWrong : ChangeSpec := { name := "fnExactParseTask", fn := fun _ => fun
  | [d] => { results := [.lit (.bool false)], args := [d] }
  | _ => none }
def FnExactParseTaskWrongFalsely : Prop := fnExactParseTaskRow.holds Try.pinned (OpenSpec.ofChange fnExactParseTaskWrong)

/-- 'laws.FnExactOnOk': WHATEVER THE INPUT: true; the input reads as it did. -/
def fnExactOnOkSpec : ChangeSpec := { name := "fnExactOnOk", fn := fun _ => fun
  | [d] => { results := [.lit (.bool true)], args := [d] }
  | _ => none }
def fnExactOnOkRow : OpenClaim := { program := "ytkpiaalieeacgaa", sum := "9699e438fab151b89b2876633d816a6e40a8ee6a013a56fa473af96c698af7ee", func := "loop.example/g00464/laws.FnExactOnOk", spec := "fnExactOnOk", inPlace := ["internal/bytealg.IndexByteString", "internal/bytealg.IndexString"], named := ["internal/bytealg.MaxLen"], apart := false }
def FnExactOnOkSaid : Prop := fnExactOnOkRow.holds Try.pinned (OpenSpec.ofChange fnExactOnOkSpec)

/-- ITS FALSE NEIGHBOUR: 'it returns false'. Refute it at one input. -/
def fnExactOnOkWrong : ChangeSpec := { name := "fnExactOnOk", fn := fun _ => fun
  | [d] => { results := [.lit (.bool false)], args := [d] }
  | _ => none }
def FnExactOnOkWrongFalsely : Prop := fnExactOnOkRow.holds Try.pinned (OpenSpec.ofChange fnExactOnOkWrong)

/-- 'laws.FnExactDepsOf': WHATEVER THE INPUT: true; the input reads as it did. -/
def fnExactDepsOfSpec : ChangeSpec := { name := "fnExactDepsOf", fn := fun _ => fun
  | [d1, d2] => { results := [.lit (.bool true)], args := [d1, d2] }
  | _ => none }
def fnExactDepsOfRow : OpenClaim := { program := "ytkpiaalieeacgaa", sum := "9699e438fab151b89b2876633d816a6e40a8ee6a013a56fa473af96c698af7ee", func := "loop.example/g00464/laws.FnExactDepsOf", spec := "fnExactDepsOf", apart := false }
def FnExactDepsOfSaid : Prop := fnExactDepsOfRow.holds Try.pinned (OpenSpec.ofChange fnExactDepsOfSpec)

/-- ITS FALSE NEIGHBOUR: 'it returns false'. Refute it at one input. -/
def fnExactDepsOfWrong : ChangeSpec := { name := "fnExactDepsOf", fn := fun _ => fun
  | [d1, d2] => { results := [.lit (.bool false)], args := [d1, d2] }
  | _ => none }
def FnExactDepsOfWrongFalsely : Prop := fnExactDepsOfRow.holds Try.pinned (OpenSpec.ofChange fnExactDepsOfWrong)

/-- 'laws.FnExactRuleAt': WHATEVER THE INPUT: true; the input reads as it did. -/
def fnExactRuleAtSpec : ChangeSpec := { name := "fnExactRuleAt", fn := fun _ => fun
  | [d1, d2] => { results := [.lit (.bool true)], args := [d1, d2] }
  | _ => none }
def fnExactRuleAtRow : OpenClaim := { program := "ytkpiaalieeacgaa", sum := "9699e438fab151b89b2876633d816a6e40a8ee6a013a56fa473af96c698af7ee", func := "loop.example/g00464/laws.FnExactRuleAt", spec := "fnExactRuleAt", apart := false }
def FnExactRuleAtSaid : Prop := fnExactRuleAtRow.holds Try.pinned (OpenSpec.ofChange fnExactRuleAtSpec)

/-- ITS FALSE NEIGHBOUR: 'it returns false'. Refute it at one input. -/
def fnExactRuleAtWrong : ChangeSpec := { name := "fnExactRuleAt", fn := fun _ => fun
  | [d1, d2] => { results := [.lit (.bool false)], args := [d1, d2] }
  | _ => none }
def FnExactRuleAtWrongFalsely : Prop := fnExactRuleAtRow.holds Try.pinned (OpenSpec.ofChange fnExactRuleAtWrong)

/-- 'laws.FnExactPickOf': WHATEVER THE INPUT: true; the input reads as it did. -/
def fnExactPickOfSpec : ChangeSpec := { name := "fnExactPickOf", fn := fun _ => fun
  | [d1, d2] => { results := [.lit (.bool true)], args := [d1, d2] }
  | _ => none }
def fnExactPickOfRow : OpenClaim := { program := "ytkpiaalieeacgaa", sum := "9699e438fab151b89b2876633d816a6e40a8ee6a013a56fa473af96c698af7ee", func := "loop.example/g00464/laws.FnExactPickOf", spec := "fnExactPickOf", unfollowed := true, recurses := true, apart := false }
def FnExactPickOfSaid : Prop := fnExactPickOfRow.holds Try.pinned (OpenSpec.ofChange fnExactPickOfSpec)

/-- ITS FALSE NEIGHBOUR: 'it returns false'. Refute it at one input. -/
def fnExactPickOfWrong : ChangeSpec := { name := "fnExactPickOf", fn := fun _ => fun
  | [d1, d2] => { results := [.lit (.bool false)], args := [d1, d2] }
  | _ => none }
def FnExactPickOfWrongFalsely : Prop := fnExactPickOfRow.holds Try.pinned (OpenSpec.ofChange fnExactPickOfWrong)

/-- 'laws.FnExactRuleVal': WHATEVER THE INPUT: true; the input reads as it did. -/
def fnExactRuleValSpec : ChangeSpec := { name := "fnExactRuleVal", fn := fun _ => fun
  | [d] => { results := [.lit (.bool true)], args := [d] }
  | _ => none }
def fnExactRuleValRow : OpenClaim := { program := "ytkpiaalieeacgaa", sum := "9699e438fab151b89b2876633d816a6e40a8ee6a013a56fa473af96c698af7ee", func := "loop.example/g00464/laws.FnExactRuleVal", spec := "fnExactRuleVal", recurses := true, apart := false }
def FnExactRuleValSaid : Prop := fnExactRuleValRow.holds Try.pinned (OpenSpec.ofChange fnExactRuleValSpec)

/-- ITS FALSE NEIGHBOUR: 'it returns false'. Refute it at one input. -/
def fnExactRuleValWrong : ChangeSpec := { name := "fnExactRuleVal", fn := fun _ => fun
  | [d] => { results := [.lit (.bool false)], args := [d] }
  | _ => none }
def FnExactRuleValWrongFalsely : Prop := fnExactRuleValRow.holds Try.pinned (OpenSpec.ofChange fnExactRuleValWrong)

/-- 'laws.FnExactTaskOrder': WHATEVER THE INPUT: true; the input reads as it did. -/
def fnExactTaskOrderSpec : ChangeSpec := { name := "fnExactTaskOrder", fn := fun _ => fun
  | [d] => { results := [.lit (.bool true)], args := [d] }
  | _ => none }
def fnExactTaskOrderRow : OpenClaim := { program := "ytkpiaalieeacgaa", sum := "9699e438fab151b89b2876633d816a6e40a8ee6a013a56fa473af96c698af7ee", func := "loop.example/g00464/laws.FnExactTaskOrder", spec := "fnExactTaskOrder", unfollowed := true, recurses := true, apart := false }
def FnExactTaskOrderSaid : Prop := fnExactTaskOrderRow.holds Try.pinned (OpenSpec.ofChange fnExactTaskOrderSpec)

/-- ITS FALSE NEIGHBOUR: 'it returns false'. Refute it at one input. -/
def fnExactTaskOrderWrong : ChangeSpec := { name := "fnExactTaskOrder", fn := fun _ => fun
  | [d] => { results := [.lit (.bool false)], args := [d] }
  | _ => none }
def FnExactTaskOrderWrongFalsely : Prop := fnExactTaskOrderRow.holds Try.pinned (OpenSpec.ofChange fnExactTaskOrderWrong)

/-- 'laws.FnExactWanted': WHATEVER THE INPUT: true; the input reads as it did. -/
def fnExactWantedSpec : ChangeSpec := { name := "fnExactWanted", fn := fun _ => fun
  | [d] => { results := [.lit (.bool true)], args := [d] }
  | _ => none }
def fnExactWantedRow : OpenClaim := { program := "ytkpiaalieeacgaa", sum := "9699e438fab151b89b2876633d816a6e40a8ee6a013a56fa473af96c698af7ee", func := "loop.example/g00464/laws.FnExactWanted", spec := "fnExactWanted", apart := false }
def FnExactWantedSaid : Prop := fnExactWantedRow.holds Try.pinned (OpenSpec.ofChange fnExactWantedSpec)

/-- ITS FALSE NEIGHBOUR: 'it returns false'. Refute it at one input. -/
def fnExactWantedWrong : ChangeSpec := { name := "fnExactWanted", fn := fun _ => fun
  | [d] => { results := [.lit (.bool false)], args := [d] }
  | _ => none }
def FnExactWantedWrongFalsely : Prop := fnExactWantedRow.holds Try.pinned (OpenSpec.ofChange fnExactWantedWrong)

/-- 'laws.FnExactPlanOk': WHATEVER THE INPUT: true; the input reads as it did. -/
def fnExactPlanOkSpec : ChangeSpec := { name := "fnExactPlanOk", fn := fun _ => fun
  | [d] => { results := [.lit (.bool true)], args := [d] }
  | _ => none }
def fnExactPlanOkRow : OpenClaim := { program := "ytkpiaalieeacgaa", sum := "9699e438fab151b89b2876633d816a6e40a8ee6a013a56fa473af96c698af7ee", func := "loop.example/g00464/laws.FnExactPlanOk", spec := "fnExactPlanOk", inPlace := ["internal/bytealg.IndexByteString", "internal/bytealg.IndexString"], named := ["internal/bytealg.MaxLen"], apart := false }
def FnExactPlanOkSaid : Prop := fnExactPlanOkRow.holds Try.pinned (OpenSpec.ofChange fnExactPlanOkSpec)

/-- ITS FALSE NEIGHBOUR: 'it returns false'. Refute it at one input. -/
def fnExactPlanOkWrong : ChangeSpec := { name := "fnExactPlanOk", fn := fun _ => fun
  | [d] => { results := [.lit (.bool false)], args := [d] }
  | _ => none }
def FnExactPlanOkWrongFalsely : Prop := fnExactPlanOkRow.holds Try.pinned (OpenSpec.ofChange fnExactPlanOkWrong)

/- THE SECOND FORM. 'bulk': how many values and letters a reading holds, each counted each time it is reached (what is shared counts as often as it is met; a slice's spare places count too). A statement '..UptoSaid' is the law's where the arguments, and the package variables that the reading takes, are together of bulk at most 1048576: NARROWER than '..Said'. Prove '..Said' where nothing that the law and all that it calls make is longer than what came in: it says more and counts as full. Else prove '..UptoSaid'. A law counts once. -/
mutual
def uptoBulk {H : Type} : DataW H → Nat
  | .lit (.string bytes) => bytes.length + 1
  | .lit _ => 1
  | .nil => 1
  | .ptr d => uptoBulk d + 1
  | .slice elems spare => uptoBulkAll elems + uptoBulkAll spare + 1
  | .agg parts => uptoBulkAll parts + 1
  | .iface _ d => uptoBulk d + 1
  | .map entries => uptoBulkEntries entries + 1
  | .held _ => 1
def uptoBulkAll {H : Type} : List (DataW H) → Nat
  | [] => 0
  | d :: r => uptoBulk d + uptoBulkAll r
def uptoBulkEntries {H : Type} : List (Lit × DataW H) → Nat
  | [] => 0
  | x :: r => uptoBulkEntry x + uptoBulkEntries r
def uptoBulkEntry {H : Type} : Lit × DataW H → Nat
  | (.string bytes, d) => bytes.length + uptoBulk d + 1
  | (_, d) => uptoBulk d + 1
 end
def uptoSmall : (H : Type) → List (DataW H) → Bool := fun _ ds => decide (uptoBulkAll ds ≤ 1048576)
def OpenSpec.upto (s : _root_.Go.ChangeSpec) : _root_.Go.OpenSpec := { _root_.Go.OpenSpec.ofChange s with cond := some uptoSmall }

/-- 'laws.FnExactTaskName', WHERE WHAT IT READS IS OF BULK AT MOST 1048576: true; the input reads as it did. -/
def fnExactTaskNameUptoRow : OpenClaim := { program := "ytkpiaalieeacgaa", sum := "9699e438fab151b89b2876633d816a6e40a8ee6a013a56fa473af96c698af7ee", func := "loop.example/g00464/laws.FnExactTaskName", spec := "fnExactTaskName", apart := false, narrowed := true }
def FnExactTaskNameUptoSaid : Prop := fnExactTaskNameUptoRow.holds Try.pinned (OpenSpec.upto fnExactTaskNameSpec)

/-- 'laws.FnExactCacheSize', WHERE WHAT IT READS IS OF BULK AT MOST 1048576: true; the input reads as it did. -/
def fnExactCacheSizeUptoRow : OpenClaim := { program := "ytkpiaalieeacgaa", sum := "9699e438fab151b89b2876633d816a6e40a8ee6a013a56fa473af96c698af7ee", func := "loop.example/g00464/laws.FnExactCacheSize", spec := "fnExactCacheSize", apart := false, narrowed := true }
def FnExactCacheSizeUptoSaid : Prop := fnExactCacheSizeUptoRow.holds Try.pinned (OpenSpec.upto fnExactCacheSizeSpec)

/-- 'laws.FnExactSameMade', WHERE WHAT IT READS IS OF BULK AT MOST 1048576: true; the input reads as it did. -/
def fnExactSameMadeUptoRow : OpenClaim := { program := "ytkpiaalieeacgaa", sum := "9699e438fab151b89b2876633d816a6e40a8ee6a013a56fa473af96c698af7ee", func := "loop.example/g00464/laws.FnExactSameMade", spec := "fnExactSameMade", apart := false, narrowed := true }
def FnExactSameMadeUptoSaid : Prop := fnExactSameMadeUptoRow.holds Try.pinned (OpenSpec.upto fnExactSameMadeSpec)

/-- 'laws.FnExactParseTask', WHERE WHAT IT READS IS OF BULK AT MOST 1048576: true; the input reads as it did. -/
def fnExactParseTaskUptoRow : OpenClaim := { program := "ytkpiaalieeacgaa", sum := "9699e438fab151b89b2876633d816a6e40a8ee6a013a56fa473af96c698af7ee", func := "loop.example/g00464/laws.FnExactParseTask", spec := "fnExactParseTask", inPlace := ["internal/bytealg.IndexByteString", "internal/bytealg.IndexString"], named := ["internal/bytealg.MaxLen"], apart := false, narrowed := true }
def FnExactParseTaskUptoSaid : Prop := fnExactParseTaskUptoRow.holds Try.pinned (OpenSpec.upto fnExactParseTaskSpec)

/-- 'laws.FnExactOnOk', WHERE WHAT IT READS IS OF BULK AT MOST 1048576: true; the input reads as it did. -/
def fnExactOnOkUptoRow : OpenClaim := { program := "ytkpiaalieeacgaa", sum := "9699e438fab151b89b2876633d816a6e40a8ee6a013a56fa473af96c698af7ee", func := "loop.example/g00464/laws.FnExactOnOk", spec := "fnExactOnOk", inPlace := ["internal/bytealg.IndexByteString", "internal/bytealg.IndexString"], named := ["internal/bytealg.MaxLen"], apart := false, narrowed := true }
def FnExactOnOkUptoSaid : Prop := fnExactOnOkUptoRow.holds Try.pinned (OpenSpec.upto fnExactOnOkSpec)

/-- 'laws.FnExactDepsOf', WHERE WHAT IT READS IS OF BULK AT MOST 1048576: true; the input reads as it did. -/
def fnExactDepsOfUptoRow : OpenClaim := { program := "ytkpiaalieeacgaa", sum := "9699e438fab151b89b2876633d816a6e40a8ee6a013a56fa473af96c698af7ee", func := "loop.example/g00464/laws.FnExactDepsOf", spec := "fnExactDepsOf", apart := false, narrowed := true }
def FnExactDepsOfUptoSaid : Prop := fnExactDepsOfUptoRow.holds Try.pinned (OpenSpec.upto fnExactDepsOfSpec)

/-- 'laws.FnExactRuleAt', WHERE WHAT IT READS IS OF BULK AT MOST 1048576: true; the input reads as it did. -/
def fnExactRuleAtUptoRow : OpenClaim := { program := "ytkpiaalieeacgaa", sum := "9699e438fab151b89b2876633d816a6e40a8ee6a013a56fa473af96c698af7ee", func := "loop.example/g00464/laws.FnExactRuleAt", spec := "fnExactRuleAt", apart := false, narrowed := true }
def FnExactRuleAtUptoSaid : Prop := fnExactRuleAtUptoRow.holds Try.pinned (OpenSpec.upto fnExactRuleAtSpec)

/-- 'laws.FnExactPickOf', WHERE WHAT IT READS IS OF BULK AT MOST 1048576: true; the input reads as it did. -/
def fnExactPickOfUptoRow : OpenClaim := { program := "ytkpiaalieeacgaa", sum := "9699e438fab151b89b2876633d816a6e40a8ee6a013a56fa473af96c698af7ee", func := "loop.example/g00464/laws.FnExactPickOf", spec := "fnExactPickOf", unfollowed := true, recurses := true, apart := false, narrowed := true }
def FnExactPickOfUptoSaid : Prop := fnExactPickOfUptoRow.holds Try.pinned (OpenSpec.upto fnExactPickOfSpec)

/-- 'laws.FnExactRuleVal', WHERE WHAT IT READS IS OF BULK AT MOST 1048576: true; the input reads as it did. -/
def fnExactRuleValUptoRow : OpenClaim := { program := "ytkpiaalieeacgaa", sum := "9699e438fab151b89b2876633d816a6e40a8ee6a013a56fa473af96c698af7ee", func := "loop.example/g00464/laws.FnExactRuleVal", spec := "fnExactRuleVal", recurses := true, apart := false, narrowed := true }
def FnExactRuleValUptoSaid : Prop := fnExactRuleValUptoRow.holds Try.pinned (OpenSpec.upto fnExactRuleValSpec)

/-- 'laws.FnExactTaskOrder', WHERE WHAT IT READS IS OF BULK AT MOST 1048576: true; the input reads as it did. -/
def fnExactTaskOrderUptoRow : OpenClaim := { program := "ytkpiaalieeacgaa", sum := "9699e438fab151b89b2876633d816a6e40a8ee6a013a56fa473af96c698af7ee", func := "loop.example/g00464/laws.FnExactTaskOrder", spec := "fnExactTaskOrder", unfollowed := true, recurses := true, apart := false, narrowed := true }
def FnExactTaskOrderUptoSaid : Prop := fnExactTaskOrderUptoRow.holds Try.pinned (OpenSpec.upto fnExactTaskOrderSpec)

/-- 'laws.FnExactWanted', WHERE WHAT IT READS IS OF BULK AT MOST 1048576: true; the input reads as it did. -/
def fnExactWantedUptoRow : OpenClaim := { program := "ytkpiaalieeacgaa", sum := "9699e438fab151b89b2876633d816a6e40a8ee6a013a56fa473af96c698af7ee", func := "loop.example/g00464/laws.FnExactWanted", spec := "fnExactWanted", apart := false, narrowed := true }
def FnExactWantedUptoSaid : Prop := fnExactWantedUptoRow.holds Try.pinned (OpenSpec.upto fnExactWantedSpec)

/-- 'laws.FnExactPlanOk', WHERE WHAT IT READS IS OF BULK AT MOST 1048576: true; the input reads as it did. -/
def fnExactPlanOkUptoRow : OpenClaim := { program := "ytkpiaalieeacgaa", sum := "9699e438fab151b89b2876633d816a6e40a8ee6a013a56fa473af96c698af7ee", func := "loop.example/g00464/laws.FnExactPlanOk", spec := "fnExactPlanOk", inPlace := ["internal/bytealg.IndexByteString", "internal/bytealg.IndexString"], named := ["internal/bytealg.MaxLen"], apart := false, narrowed := true }
def FnExactPlanOkUptoSaid : Prop := fnExactPlanOkUptoRow.holds Try.pinned (OpenSpec.upto fnExactPlanOkSpec)

end Rows
end Go.Proofs.Ytkpiaalieeacgaa
