/-
  No cell of these rows narrows 'for every input' (looked for: loops, veiled, ifaces, maps, wideKeys, modest, calm, conditions, laid).
  DERIVED. THE GIVEN ROWS OF THIS SEAT. 11 by the template 'for every input the law returns true; each argument reads behind the call as it read before'; 0 by the template 'total and deterministic' (their statements: YtanbgnjfllpkgaaTotals.lean).
  GIVEN WITH THE SEED: the statements are not yours to turn. If you find one false, say at which input.
  Laid BY PROGRAM, IN A SANDBOX (cutbox-rows.mjs): the forced cells as the released guide's own fill.sh prints them over the translation ec9d4b48f75e0680… (all of the seat's roots in one cut). By AI agents, Wed Nov 11 2026. No macro, syntax, notation, axiom, sorry.
-/
import Derived.Test.YtanbgnjfllpkgaaChecked
import GoSem.Claim
import GoSem.ClaimJoined
import GoSem.ClaimMapViews
import Derived.JoinedTies
import Derived.KernelRfl
namespace Go.Proofs.Ytanbgnjfllpkgaa
/- THE CELL 'sum', in the pinned program and in every row, IS THE sha256 OF THE DUMP (.gsa) THAT YtanbgnjfllpkgaaProg.lean LOADS. Nothing in Lean hashes anything: it is a label: what it is worth is what the hold of that sum in a sandbox is worth. -/
noncomputable def Try.pinned : Pinned := { name := "ytanbgnjfllpkgaa", sum := "ec9d4b48f75e0680aba5b9db6e229c88e34b4922b0e7c844eeeeb5398b287f09", checked := Try.checked }
namespace Rows
def none {H : Type} : Left H := { results := [], args := [] }

/-- 'laws.FnExactEncodeHex': WHATEVER THE INPUT: true; the input reads as it did. -/
def fnExactEncodeHexSpec : ChangeSpec := { name := "fnExactEncodeHex", fn := fun _ => fun
  | [d] => { results := [.lit (.bool true)], args := [d] }
  | _ => none }
def fnExactEncodeHexRow : OpenClaim := { program := "ytanbgnjfllpkgaa", sum := "ec9d4b48f75e0680aba5b9db6e229c88e34b4922b0e7c844eeeeb5398b287f09", func := "loop.example/g01985/laws.FnExactEncodeHex", spec := "fnExactEncodeHex", apart := false }
def FnExactEncodeHexSaid : Prop := fnExactEncodeHexRow.holds Try.pinned (OpenSpec.ofChange fnExactEncodeHexSpec)

/-- ITS FALSE NEIGHBOUR: 'it returns false'. Refute it at one input. -/
def fnExactEncodeHexWrong : ChangeSpec := { name := "fnExactEncodeHex", fn := fun _ => fun
  | [d] => { results := [.lit (.bool false)], args := [d] }
  | _ => none }
def FnExactEncodeHexWrongFalsely : Prop := fnExactEncodeHexRow.holds Try.pinned (OpenSpec.ofChange fnExactEncodeHexWrong)

/-- 'laws.FnExactDecodeHex': WHATEVER THE INPUT: true; the input reads as it did. -/
def fnExactDecodeHexSpec : ChangeSpec := { name := "fnExactDecodeHex", fn := fun _ => fun
  | [d] => { results := [.lit (.bool true)], args := [d] }
  | _ => none }
def fnExactDecodeHexRow : OpenClaim := { program := "ytanbgnjfllpkgaa", sum := "ec9d4b48f75e0680aba5b9db6e229c88e34b4922b0e7c844eeeeb5398b287f09", func := "loop.example/g01985/laws.FnExactDecodeHex", spec := "fnExactDecodeHex", apart := false }
def FnExactDecodeHexSaid : Prop := fnExactDecodeHexRow.holds Try.pinned (OpenSpec.ofChange fnExactDecodeHexSpec)

/-- ITS FALSE NEIGHBOUR: 'it returns false'. Refute it at one input. -/
def fnExactDecodeHexWrong : ChangeSpec := { name := "fnExactDecodeHex", fn := fun _ => fun
  | [d] => { results := [.lit (.bool false)], args := [d] }
  | _ => none }
def FnExactDecodeHexWrongFalsely : Prop := fnExactDecodeHexRow.holds Try.pinned (OpenSpec.ofChange fnExactDecodeHexWrong)

/-- 'laws.FnIntegerEncodings': WHATEVER THE INPUT: true; the input reads as it did. -/
def fnIntegerEncodingsSpec : ChangeSpec := { name := "fnIntegerEncodings", fn := fun _ => fun
  | [d] => { results := [.lit (.bool true)], args := [d] }
  | _ => none }
def fnIntegerEncodingsRow : OpenClaim := { program := "ytanbgnjfllpkgaa", sum := "ec9d4b48f75e0680aba5b9db6e229c88e34b4922b0e7c844eeeeb5398b287f09", func := "loop.example/g01985/laws.FnIntegerEncodings", spec := "fnIntegerEncodings", apart := false }
def FnIntegerEncodingsSaid : Prop := fnIntegerEncodingsRow.holds Try.pinned (OpenSpec.ofChange fnIntegerEncodingsSpec)

/-- ITS FALSE NEIGHBOUR: 'it returns false'. Refute it at one input. -/
def fnIntegerEncodingsWrong : ChangeSpec := { name := "fnIntegerEncodings", fn := fun _ => fun
  | [d] => { results := [.lit (.bool false)], args := [d] }
  | _ => none }
def FnIntegerEncodingsWrongFalsely : Prop := fnIntegerEncodingsRow.holds Try.pinned (OpenSpec.ofChange fnIntegerEncodingsWrong)

/-- 'laws.FnExactEqualQueries': WHATEVER THE INPUT: true; the input reads as it did. -/
def fnExactEqualQueriesSpec : ChangeSpec := { name := "fnExactEqualQueries", fn := fun _ => fun
  | [d1, d2] => { results := [.lit (.bool true)], args := [d1, d2] }
  | _ => none }
def fnExactEqualQueriesRow : OpenClaim := { program := "ytanbgnjfllpkgaa", sum := "ec9d4b48f75e0680aba5b9db6e229c88e34b4922b0e7c844eeeeb5398b287f09", func := "loop.example/g01985/laws.FnExactEqualQueries", spec := "fnExactEqualQueries", unfollowed := true, recurses := true, apart := false }
def FnExactEqualQueriesSaid : Prop := fnExactEqualQueriesRow.holds Try.pinned (OpenSpec.ofChange fnExactEqualQueriesSpec)

/-- ITS FALSE NEIGHBOUR: 'it returns false'. Refute it at one input. -/
def fnExactEqualQueriesWrong : ChangeSpec := { name := "fnExactEqualQueries", fn := fun _ => fun
  | [d1, d2] => { results := [.lit (.bool false)], args := [d1, d2] }
  | _ => none }
def FnExactEqualQueriesWrongFalsely : Prop := fnExactEqualQueriesRow.holds Try.pinned (OpenSpec.ofChange fnExactEqualQueriesWrong)

/-- 'laws.FnExactEqualFacts': WHATEVER THE INPUT: true; the input reads as it did. -/
def fnExactEqualFactsSpec : ChangeSpec := { name := "fnExactEqualFacts", fn := fun _ => fun
  | [d1, d2] => { results := [.lit (.bool true)], args := [d1, d2] }
  | _ => none }
def fnExactEqualFactsRow : OpenClaim := { program := "ytanbgnjfllpkgaa", sum := "ec9d4b48f75e0680aba5b9db6e229c88e34b4922b0e7c844eeeeb5398b287f09", func := "loop.example/g01985/laws.FnExactEqualFacts", spec := "fnExactEqualFacts", unfollowed := true, recurses := true, apart := false }
def FnExactEqualFactsSaid : Prop := fnExactEqualFactsRow.holds Try.pinned (OpenSpec.ofChange fnExactEqualFactsSpec)

/-- ITS FALSE NEIGHBOUR: 'it returns false'. Refute it at one input. -/
def fnExactEqualFactsWrong : ChangeSpec := { name := "fnExactEqualFacts", fn := fun _ => fun
  | [d1, d2] => { results := [.lit (.bool false)], args := [d1, d2] }
  | _ => none }
def FnExactEqualFactsWrongFalsely : Prop := fnExactEqualFactsRow.holds Try.pinned (OpenSpec.ofChange fnExactEqualFactsWrong)

/-- 'laws.FnExactRenameQuery': WHATEVER THE INPUT: true; the input reads as it did. -/
def fnExactRenameQuerySpec : ChangeSpec := { name := "fnExactRenameQuery", fn := fun _ => fun
  | [d1, d2] => { results := [.lit (.bool true)], args := [d1, d2] }
  | _ => none }
def fnExactRenameQueryRow : OpenClaim := { program := "ytanbgnjfllpkgaa", sum := "ec9d4b48f75e0680aba5b9db6e229c88e34b4922b0e7c844eeeeb5398b287f09", func := "loop.example/g01985/laws.FnExactRenameQuery", spec := "fnExactRenameQuery", unfollowed := true, recurses := true, apart := false }
def FnExactRenameQuerySaid : Prop := fnExactRenameQueryRow.holds Try.pinned (OpenSpec.ofChange fnExactRenameQuerySpec)

/-- ITS FALSE NEIGHBOUR: 'it returns false'. Refute it at one input. -/
def fnExactRenameQueryWrong : ChangeSpec := { name := "fnExactRenameQuery", fn := fun _ => fun
  | [d1, d2] => { results := [.lit (.bool false)], args := [d1, d2] }
  | _ => none }
def FnExactRenameQueryWrongFalsely : Prop := fnExactRenameQueryRow.holds Try.pinned (OpenSpec.ofChange fnExactRenameQueryWrong)

/-- 'laws.FnExactIsMapping': WHATEVER THE INPUT: true; the input reads as it did. -/
def fnExactIsMappingSpec : ChangeSpec := { name := "fnExactIsMapping", fn := fun _ => fun
  | [d1, d2, d3, d4] => { results := [.lit (.bool true)], args := [d1, d2, d3, d4] }
  | _ => none }
def fnExactIsMappingRow : OpenClaim := { program := "ytanbgnjfllpkgaa", sum := "ec9d4b48f75e0680aba5b9db6e229c88e34b4922b0e7c844eeeeb5398b287f09", func := "loop.example/g01985/laws.FnExactIsMapping", spec := "fnExactIsMapping", unfollowed := true, recurses := true, apart := false }
def FnExactIsMappingSaid : Prop := fnExactIsMappingRow.holds Try.pinned (OpenSpec.ofChange fnExactIsMappingSpec)

/-- ITS FALSE NEIGHBOUR: 'it returns false'. Refute it at one input. -/
def fnExactIsMappingWrong : ChangeSpec := { name := "fnExactIsMapping", fn := fun _ => fun
  | [d1, d2, d3, d4] => { results := [.lit (.bool false)], args := [d1, d2, d3, d4] }
  | _ => none }
def FnExactIsMappingWrongFalsely : Prop := fnExactIsMappingRow.holds Try.pinned (OpenSpec.ofChange fnExactIsMappingWrong)

/-- 'laws.FnExactIsContained': WHATEVER THE INPUT: true; the input reads as it did. -/
def fnExactIsContainedSpec : ChangeSpec := { name := "fnExactIsContained", fn := fun _ => fun
  | [d1, d2, d3] => { results := [.lit (.bool true)], args := [d1, d2, d3] }
  | _ => none }
def fnExactIsContainedRow : OpenClaim := { program := "ytanbgnjfllpkgaa", sum := "ec9d4b48f75e0680aba5b9db6e229c88e34b4922b0e7c844eeeeb5398b287f09", func := "loop.example/g01985/laws.FnExactIsContained", spec := "fnExactIsContained", unfollowed := true, recurses := true, apart := false }
def FnExactIsContainedSaid : Prop := fnExactIsContainedRow.holds Try.pinned (OpenSpec.ofChange fnExactIsContainedSpec)

/-- ITS FALSE NEIGHBOUR: 'it returns false'. Refute it at one input. -/
def fnExactIsContainedWrong : ChangeSpec := { name := "fnExactIsContained", fn := fun _ => fun
  | [d1, d2, d3] => { results := [.lit (.bool false)], args := [d1, d2, d3] }
  | _ => none }
def FnExactIsContainedWrongFalsely : Prop := fnExactIsContainedRow.holds Try.pinned (OpenSpec.ofChange fnExactIsContainedWrong)

/-- 'laws.FnExactIsEquivalent': WHATEVER THE INPUT: true; the input reads as it did. -/
def fnExactIsEquivalentSpec : ChangeSpec := { name := "fnExactIsEquivalent", fn := fun _ => fun
  | [d1, d2, d3] => { results := [.lit (.bool true)], args := [d1, d2, d3] }
  | _ => none }
def fnExactIsEquivalentRow : OpenClaim := { program := "ytanbgnjfllpkgaa", sum := "ec9d4b48f75e0680aba5b9db6e229c88e34b4922b0e7c844eeeeb5398b287f09", func := "loop.example/g01985/laws.FnExactIsEquivalent", spec := "fnExactIsEquivalent", unfollowed := true, recurses := true, apart := false }
def FnExactIsEquivalentSaid : Prop := fnExactIsEquivalentRow.holds Try.pinned (OpenSpec.ofChange fnExactIsEquivalentSpec)

/-- ITS FALSE NEIGHBOUR: 'it returns false'. Refute it at one input. -/
def fnExactIsEquivalentWrong : ChangeSpec := { name := "fnExactIsEquivalent", fn := fun _ => fun
  | [d1, d2, d3] => { results := [.lit (.bool false)], args := [d1, d2, d3] }
  | _ => none }
def FnExactIsEquivalentWrongFalsely : Prop := fnExactIsEquivalentRow.holds Try.pinned (OpenSpec.ofChange fnExactIsEquivalentWrong)

/-- 'laws.FnExactFindMapping': WHATEVER THE INPUT: true; the input reads as it did. -/
def fnExactFindMappingSpec : ChangeSpec := { name := "fnExactFindMapping", fn := fun _ => fun
  | [d1, d2, d3] => { results := [.lit (.bool true)], args := [d1, d2, d3] }
  | _ => none }
def fnExactFindMappingRow : OpenClaim := { program := "ytanbgnjfllpkgaa", sum := "ec9d4b48f75e0680aba5b9db6e229c88e34b4922b0e7c844eeeeb5398b287f09", func := "loop.example/g01985/laws.FnExactFindMapping", spec := "fnExactFindMapping", unfollowed := true, recurses := true, apart := false }
def FnExactFindMappingSaid : Prop := fnExactFindMappingRow.holds Try.pinned (OpenSpec.ofChange fnExactFindMappingSpec)

/-- ITS FALSE NEIGHBOUR: 'it returns false'. Refute it at one input. -/
def fnExactFindMappingWrong : ChangeSpec := { name := "fnExactFindMapping", fn := fun _ => fun
  | [d1, d2, d3] => { results := [.lit (.bool false)], args := [d1, d2, d3] }
  | _ => none }
def FnExactFindMappingWrongFalsely : Prop := fnExactFindMappingRow.holds Try.pinned (OpenSpec.ofChange fnExactFindMappingWrong)

/-- 'laws.FnMappings': WHATEVER THE INPUT: true; the input reads as it did. -/
def fnMappingsSpec : ChangeSpec := { name := "fnMappings", fn := fun _ => fun
  | [d] => { results := [.lit (.bool true)], args := [d] }
  | _ => none }
def fnMappingsRow : OpenClaim := { program := "ytanbgnjfllpkgaa", sum := "ec9d4b48f75e0680aba5b9db6e229c88e34b4922b0e7c844eeeeb5398b287f09", func := "loop.example/g01985/laws.FnMappings", spec := "fnMappings", unfollowed := true, recurses := true, apart := false }
def FnMappingsSaid : Prop := fnMappingsRow.holds Try.pinned (OpenSpec.ofChange fnMappingsSpec)

/-- ITS FALSE NEIGHBOUR: 'it returns false'. Refute it at one input. -/
def fnMappingsWrong : ChangeSpec := { name := "fnMappings", fn := fun _ => fun
  | [d] => { results := [.lit (.bool false)], args := [d] }
  | _ => none }
def FnMappingsWrongFalsely : Prop := fnMappingsRow.holds Try.pinned (OpenSpec.ofChange fnMappingsWrong)

/- THE SECOND FORM. 'bulk': how many values and letters a reading holds, each counted each time it is reached (what is shared counts as often as it is met; a slice's spare places count too). A statement '..UptoSaid' is the law's where the arguments, and the package variables that the reading takes, are together of bulk at most 1048576: NARROWER than '..Said'. Prove '..Said' where nothing that the law and all that it calls make is longer than what came in: it says more and counts as full. Else prove '..UptoSaid'. A law counts once. -/
mutual
def uptoBulk {H : Type} : DataW H → Nat
  | .lit (.string bytes) => bytes.length + 1
  | .lit _ => 1
  | .nil => 1
  | .ptr d => uptoBulk d + 1
  | .slice elems spare => uptoBulkAll elems + uptoBulkAll spare + 1
  | .agg parts => uptoBulkAll parts + 1
  | .iface _ d => uptoBulk d + 1
  | .map entries => uptoBulkEntries entries + 1
  | .held _ => 1
def uptoBulkAll {H : Type} : List (DataW H) → Nat
  | [] => 0
  | d :: r => uptoBulk d + uptoBulkAll r
def uptoBulkEntries {H : Type} : List (Lit × DataW H) → Nat
  | [] => 0
  | x :: r => uptoBulkEntry x + uptoBulkEntries r
def uptoBulkEntry {H : Type} : Lit × DataW H → Nat
  | (.string bytes, d) => bytes.length + uptoBulk d + 1
  | (_, d) => uptoBulk d + 1
 end
def uptoSmall : (H : Type) → List (DataW H) → Bool := fun _ ds => decide (uptoBulkAll ds ≤ 1048576)
def OpenSpec.upto (s : _root_.Go.ChangeSpec) : _root_.Go.OpenSpec := { _root_.Go.OpenSpec.ofChange s with cond := some uptoSmall }

/-- 'laws.FnExactEncodeHex', WHERE WHAT IT READS IS OF BULK AT MOST 1048576: true; the input reads as it did. -/
def fnExactEncodeHexUptoRow : OpenClaim := { program := "ytanbgnjfllpkgaa", sum := "ec9d4b48f75e0680aba5b9db6e229c88e34b4922b0e7c844eeeeb5398b287f09", func := "loop.example/g01985/laws.FnExactEncodeHex", spec := "fnExactEncodeHex", apart := false, narrowed := true }
def FnExactEncodeHexUptoSaid : Prop := fnExactEncodeHexUptoRow.holds Try.pinned (OpenSpec.upto fnExactEncodeHexSpec)

/-- 'laws.FnExactDecodeHex', WHERE WHAT IT READS IS OF BULK AT MOST 1048576: true; the input reads as it did. -/
def fnExactDecodeHexUptoRow : OpenClaim := { program := "ytanbgnjfllpkgaa", sum := "ec9d4b48f75e0680aba5b9db6e229c88e34b4922b0e7c844eeeeb5398b287f09", func := "loop.example/g01985/laws.FnExactDecodeHex", spec := "fnExactDecodeHex", apart := false, narrowed := true }
def FnExactDecodeHexUptoSaid : Prop := fnExactDecodeHexUptoRow.holds Try.pinned (OpenSpec.upto fnExactDecodeHexSpec)

/-- 'laws.FnIntegerEncodings', WHERE WHAT IT READS IS OF BULK AT MOST 1048576: true; the input reads as it did. -/
def fnIntegerEncodingsUptoRow : OpenClaim := { program := "ytanbgnjfllpkgaa", sum := "ec9d4b48f75e0680aba5b9db6e229c88e34b4922b0e7c844eeeeb5398b287f09", func := "loop.example/g01985/laws.FnIntegerEncodings", spec := "fnIntegerEncodings", apart := false, narrowed := true }
def FnIntegerEncodingsUptoSaid : Prop := fnIntegerEncodingsUptoRow.holds Try.pinned (OpenSpec.upto fnIntegerEncodingsSpec)

/-- 'laws.FnExactEqualQueries', WHERE WHAT IT READS IS OF BULK AT MOST 1048576: true; the input reads as it did. -/
def fnExactEqualQueriesUptoRow : OpenClaim := { program := "ytanbgnjfllpkgaa", sum := "ec9d4b48f75e0680aba5b9db6e229c88e34b4922b0e7c844eeeeb5398b287f09", func := "loop.example/g01985/laws.FnExactEqualQueries", spec := "fnExactEqualQueries", unfollowed := true, recurses := true, apart := false, narrowed := true }
def FnExactEqualQueriesUptoSaid : Prop := fnExactEqualQueriesUptoRow.holds Try.pinned (OpenSpec.upto fnExactEqualQueriesSpec)

/-- 'laws.FnExactEqualFacts', WHERE WHAT IT READS IS OF BULK AT MOST 1048576: true; the input reads as it did. -/
def fnExactEqualFactsUptoRow : OpenClaim := { program := "ytanbgnjfllpkgaa", sum := "ec9d4b48f75e0680aba5b9db6e229c88e34b4922b0e7c844eeeeb5398b287f09", func := "loop.example/g01985/laws.FnExactEqualFacts", spec := "fnExactEqualFacts", unfollowed := true, recurses := true, apart := false, narrowed := true }
def FnExactEqualFactsUptoSaid : Prop := fnExactEqualFactsUptoRow.holds Try.pinned (OpenSpec.upto fnExactEqualFactsSpec)

/-- 'laws.FnExactRenameQuery', WHERE WHAT IT READS IS OF BULK AT MOST 1048576: true; the input reads as it did. -/
def fnExactRenameQueryUptoRow : OpenClaim := { program := "ytanbgnjfllpkgaa", sum := "ec9d4b48f75e0680aba5b9db6e229c88e34b4922b0e7c844eeeeb5398b287f09", func := "loop.example/g01985/laws.FnExactRenameQuery", spec := "fnExactRenameQuery", unfollowed := true, recurses := true, apart := false, narrowed := true }
def FnExactRenameQueryUptoSaid : Prop := fnExactRenameQueryUptoRow.holds Try.pinned (OpenSpec.upto fnExactRenameQuerySpec)

/-- 'laws.FnExactIsMapping', WHERE WHAT IT READS IS OF BULK AT MOST 1048576: true; the input reads as it did. -/
def fnExactIsMappingUptoRow : OpenClaim := { program := "ytanbgnjfllpkgaa", sum := "ec9d4b48f75e0680aba5b9db6e229c88e34b4922b0e7c844eeeeb5398b287f09", func := "loop.example/g01985/laws.FnExactIsMapping", spec := "fnExactIsMapping", unfollowed := true, recurses := true, apart := false, narrowed := true }
def FnExactIsMappingUptoSaid : Prop := fnExactIsMappingUptoRow.holds Try.pinned (OpenSpec.upto fnExactIsMappingSpec)

/-- 'laws.FnExactIsContained', WHERE WHAT IT READS IS OF BULK AT MOST 1048576: true; the input reads as it did. -/
def fnExactIsContainedUptoRow : OpenClaim := { program := "ytanbgnjfllpkgaa", sum := "ec9d4b48f75e0680aba5b9db6e229c88e34b4922b0e7c844eeeeb5398b287f09", func := "loop.example/g01985/laws.FnExactIsContained", spec := "fnExactIsContained", unfollowed := true, recurses := true, apart := false, narrowed := true }
def FnExactIsContainedUptoSaid : Prop := fnExactIsContainedUptoRow.holds Try.pinned (OpenSpec.upto fnExactIsContainedSpec)

/-- 'laws.FnExactIsEquivalent', WHERE WHAT IT READS IS OF BULK AT MOST 1048576: true; the input reads as it did. -/
def fnExactIsEquivalentUptoRow : OpenClaim := { program := "ytanbgnjfllpkgaa", sum := "ec9d4b48f75e0680aba5b9db6e229c88e34b4922b0e7c844eeeeb5398b287f09", func := "loop.example/g01985/laws.FnExactIsEquivalent", spec := "fnExactIsEquivalent", unfollowed := true, recurses := true, apart := false, narrowed := true }
def FnExactIsEquivalentUptoSaid : Prop := fnExactIsEquivalentUptoRow.holds Try.pinned (OpenSpec.upto fnExactIsEquivalentSpec)

/-- 'laws.FnExactFindMapping', WHERE WHAT IT READS IS OF BULK AT MOST 1048576: true; the input reads as it did. -/
def fnExactFindMappingUptoRow : OpenClaim := { program := "ytanbgnjfllpkgaa", sum := "ec9d4b48f75e0680aba5b9db6e229c88e34b4922b0e7c844eeeeb5398b287f09", func := "loop.example/g01985/laws.FnExactFindMapping", spec := "fnExactFindMapping", unfollowed := true, recurses := true, apart := false, narrowed := true }
def FnExactFindMappingUptoSaid : Prop := fnExactFindMappingUptoRow.holds Try.pinned (OpenSpec.upto fnExactFindMappingSpec)

/-- 'laws.FnMappings', WHERE WHAT IT READS IS OF BULK AT MOST 1048576: true; the input reads as it did. -/
def fnMappingsUptoRow : OpenClaim := { program := "ytanbgnjfllpkgaa", sum := "ec9d4b48f75e0680aba5b9db6e229c88e34b4922b0e7c844eeeeb5398b287f09", func := "loop.example/g01985/laws.FnMappings", spec := "fnMappings", unfollowed := true, recurses := true, apart := false, narrowed := true }
def FnMappingsUptoSaid : Prop := fnMappingsUptoRow.holds Try.pinned (OpenSpec.upto fnMappingsSpec)

end Rows
end Go.Proofs.Ytanbgnjfllpkgaa
