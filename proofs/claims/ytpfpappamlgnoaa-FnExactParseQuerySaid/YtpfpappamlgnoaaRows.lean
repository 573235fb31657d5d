/-
  No cell of these rows narrows 'for every input' (looked for: loops, veiled, ifaces, maps, wideKeys, modest, calm, conditions, laid).
  DERIVED. THE GIVEN ROWS OF THIS SEAT. 12 by the template 'for every input the law returns true; each argument reads behind the call as it read before'; 0 by the template 'total and deterministic' (their statements: YtpfpappamlgnoaaTotals.lean).
  GIVEN WITH THE SEED: the statements are not yours to turn. If you find one false, say at which input.
  Laid BY PROGRAM, IN A SANDBOX (cutbox-rows.mjs): the forced cells as the released guide's own fill.sh prints them over the translation 922b7f368e217726… (all of the seat's roots in one cut). By AI agents, Wed Nov 11 2026. No macro, syntax, notation, axiom, sorry.
-/
import Derived.Test.YtpfpappamlgnoaaChecked
import GoSem.Claim
import GoSem.ClaimJoined
import GoSem.ClaimMapViews
import Derived.JoinedTies
import Derived.KernelRfl
namespace Go.Proofs.Ytpfpappamlgnoaa
/- THE CELL 'sum', in the pinned program and in every row, IS THE sha256 OF THE DUMP (.gsa) THAT YtpfpappamlgnoaaProg.lean LOADS. Nothing in Lean hashes anything: it is a label: what it is worth is what the hold of that sum in a sandbox is worth. -/
noncomputable def Try.pinned : Pinned := { name := "ytpfpappamlgnoaa", sum := "922b7f368e21772684fa3397db37a077a0ae42d56f85c6d61e128a0179229926", checked := Try.checked }
namespace Rows
def none {H : Type} : Left H := { results := [], args := [] }

/-- 'laws.FnExactFormatMapping': WHATEVER THE INPUT: true; the input reads as it did. -/
def fnExactFormatMappingSpec : ChangeSpec := { name := "fnExactFormatMapping", fn := fun _ => fun
  | [d] => { results := [.lit (.bool true)], args := [d] }
  | _ => none }
def fnExactFormatMappingRow : OpenClaim := { program := "ytpfpappamlgnoaa", sum := "922b7f368e21772684fa3397db37a077a0ae42d56f85c6d61e128a0179229926", func := "loop.example/g01985/laws.FnExactFormatMapping", spec := "fnExactFormatMapping", apart := false }
def FnExactFormatMappingSaid : Prop := fnExactFormatMappingRow.holds Try.pinned (OpenSpec.ofChange fnExactFormatMappingSpec)

/-- ITS FALSE NEIGHBOUR: 'it returns false'. Refute it at one input. -/
def fnExactFormatMappingWrong : ChangeSpec := { name := "fnExactFormatMapping", fn := fun _ => fun
  | [d] => { results := [.lit (.bool false)], args := [d] }
  | _ => none }
def FnExactFormatMappingWrongFalsely : Prop := fnExactFormatMappingRow.holds Try.pinned (OpenSpec.ofChange fnExactFormatMappingWrong)

/-- 'laws.FnExactSameTuples': WHATEVER THE INPUT: true; the input reads as it did. -/
def fnExactSameTuplesSpec : ChangeSpec := { name := "fnExactSameTuples", fn := fun _ => fun
  | [d1, d2] => { results := [.lit (.bool true)], args := [d1, d2] }
  | _ => none }
def fnExactSameTuplesRow : OpenClaim := { program := "ytpfpappamlgnoaa", sum := "922b7f368e21772684fa3397db37a077a0ae42d56f85c6d61e128a0179229926", func := "loop.example/g01985/laws.FnExactSameTuples", spec := "fnExactSameTuples", apart := false }
def FnExactSameTuplesSaid : Prop := fnExactSameTuplesRow.holds Try.pinned (OpenSpec.ofChange fnExactSameTuplesSpec)

/-- ITS FALSE NEIGHBOUR: 'it returns false'. Refute it at one input. -/
def fnExactSameTuplesWrong : ChangeSpec := { name := "fnExactSameTuples", fn := fun _ => fun
  | [d1, d2] => { results := [.lit (.bool false)], args := [d1, d2] }
  | _ => none }
def FnExactSameTuplesWrongFalsely : Prop := fnExactSameTuplesRow.holds Try.pinned (OpenSpec.ofChange fnExactSameTuplesWrong)

/-- 'laws.FnExactParseTerm': WHATEVER THE INPUT: true; the input reads as it did. -/
def fnExactParseTermSpec : ChangeSpec := { name := "fnExactParseTerm", fn := fun _ => fun
  | [d] => { results := [.lit (.bool true)], args := [d] }
  | _ => none }
def fnExactParseTermRow : OpenClaim := { program := "ytpfpappamlgnoaa", sum := "922b7f368e21772684fa3397db37a077a0ae42d56f85c6d61e128a0179229926", func := "loop.example/g01985/laws.FnExactParseTerm", spec := "fnExactParseTerm", apart := false }
def FnExactParseTermSaid : Prop := fnExactParseTermRow.holds Try.pinned (OpenSpec.ofChange fnExactParseTermSpec)

/-- ITS FALSE NEIGHBOUR: 'it returns false'. Refute it at one input. -/
def fnExactParseTermWrong : ChangeSpec := { name := "fnExactParseTerm", fn := fun _ => fun
  | [d] => { results := [.lit (.bool false)], args := [d] }
  | _ => none }
def FnExactParseTermWrongFalsely : Prop := fnExactParseTermRow.holds Try.pinned (OpenSpec.ofChange fnExactParseTermWrong)

/-- 'laws.FnExactFormatAtom': WHATEVER THE INPUT: true; the input reads as it did. -/
def fnExactFormatAtomSpec : ChangeSpec := { name := "fnExactFormatAtom", fn := fun _ => fun
  | [d] => { results := [.lit (.bool true)], args := [d] }
  | _ => none }
def fnExactFormatAtomRow : OpenClaim := { program := "ytpfpappamlgnoaa", sum := "922b7f368e21772684fa3397db37a077a0ae42d56f85c6d61e128a0179229926", func := "loop.example/g01985/laws.FnExactFormatAtom", spec := "fnExactFormatAtom", apart := false }
def FnExactFormatAtomSaid : Prop := fnExactFormatAtomRow.holds Try.pinned (OpenSpec.ofChange fnExactFormatAtomSpec)

/-- ITS FALSE NEIGHBOUR: 'it returns false'. Refute it at one input. -/
def fnExactFormatAtomWrong : ChangeSpec := { name := "fnExactFormatAtom", fn := fun _ => fun
  | [d] => { results := [.lit (.bool false)], args := [d] }
  | _ => none }
def FnExactFormatAtomWrongFalsely : Prop := fnExactFormatAtomRow.holds Try.pinned (OpenSpec.ofChange fnExactFormatAtomWrong)

/-- 'laws.FnExactVarsOf': WHATEVER THE INPUT: true; the input reads as it did. -/
def fnExactVarsOfSpec : ChangeSpec := { name := "fnExactVarsOf", fn := fun _ => fun
  | [d] => { results := [.lit (.bool true)], args := [d] }
  | _ => none }
def fnExactVarsOfRow : OpenClaim := { program := "ytpfpappamlgnoaa", sum := "922b7f368e21772684fa3397db37a077a0ae42d56f85c6d61e128a0179229926", func := "loop.example/g01985/laws.FnExactVarsOf", spec := "fnExactVarsOf", apart := false }
def FnExactVarsOfSaid : Prop := fnExactVarsOfRow.holds Try.pinned (OpenSpec.ofChange fnExactVarsOfSpec)

/-- ITS FALSE NEIGHBOUR: 'it returns false'. Refute it at one input. -/
def fnExactVarsOfWrong : ChangeSpec := { name := "fnExactVarsOf", fn := fun _ => fun
  | [d] => { results := [.lit (.bool false)], args := [d] }
  | _ => none }
def FnExactVarsOfWrongFalsely : Prop := fnExactVarsOfRow.holds Try.pinned (OpenSpec.ofChange fnExactVarsOfWrong)

/-- 'laws.FnExactIsDatabase': WHATEVER THE INPUT: true; the input reads as it did. -/
def fnExactIsDatabaseSpec : ChangeSpec := { name := "fnExactIsDatabase", fn := fun _ => fun
  | [d1, d2] => { results := [.lit (.bool true)], args := [d1, d2] }
  | _ => none }
def fnExactIsDatabaseRow : OpenClaim := { program := "ytpfpappamlgnoaa", sum := "922b7f368e21772684fa3397db37a077a0ae42d56f85c6d61e128a0179229926", func := "loop.example/g01985/laws.FnExactIsDatabase", spec := "fnExactIsDatabase", apart := false }
def FnExactIsDatabaseSaid : Prop := fnExactIsDatabaseRow.holds Try.pinned (OpenSpec.ofChange fnExactIsDatabaseSpec)

/-- ITS FALSE NEIGHBOUR: 'it returns false'. Refute it at one input. -/
def fnExactIsDatabaseWrong : ChangeSpec := { name := "fnExactIsDatabase", fn := fun _ => fun
  | [d1, d2] => { results := [.lit (.bool false)], args := [d1, d2] }
  | _ => none }
def FnExactIsDatabaseWrongFalsely : Prop := fnExactIsDatabaseRow.holds Try.pinned (OpenSpec.ofChange fnExactIsDatabaseWrong)

/-- 'laws.FnExactIsQuery': WHATEVER THE INPUT: true; the input reads as it did. -/
def fnExactIsQuerySpec : ChangeSpec := { name := "fnExactIsQuery", fn := fun _ => fun
  | [d1, d2] => { results := [.lit (.bool true)], args := [d1, d2] }
  | _ => none }
def fnExactIsQueryRow : OpenClaim := { program := "ytpfpappamlgnoaa", sum := "922b7f368e21772684fa3397db37a077a0ae42d56f85c6d61e128a0179229926", func := "loop.example/g01985/laws.FnExactIsQuery", spec := "fnExactIsQuery", apart := false }
def FnExactIsQuerySaid : Prop := fnExactIsQueryRow.holds Try.pinned (OpenSpec.ofChange fnExactIsQuerySpec)

/-- ITS FALSE NEIGHBOUR: 'it returns false'. Refute it at one input. -/
def fnExactIsQueryWrong : ChangeSpec := { name := "fnExactIsQuery", fn := fun _ => fun
  | [d1, d2] => { results := [.lit (.bool false)], args := [d1, d2] }
  | _ => none }
def FnExactIsQueryWrongFalsely : Prop := fnExactIsQueryRow.holds Try.pinned (OpenSpec.ofChange fnExactIsQueryWrong)

/-- 'laws.FnExactFormatQuery': WHATEVER THE INPUT: true; the input reads as it did. -/
def fnExactFormatQuerySpec : ChangeSpec := { name := "fnExactFormatQuery", fn := fun _ => fun
  | [d] => { results := [.lit (.bool true)], args := [d] }
  | _ => none }
def fnExactFormatQueryRow : OpenClaim := { program := "ytpfpappamlgnoaa", sum := "922b7f368e21772684fa3397db37a077a0ae42d56f85c6d61e128a0179229926", func := "loop.example/g01985/laws.FnExactFormatQuery", spec := "fnExactFormatQuery", apart := false }
def FnExactFormatQuerySaid : Prop := fnExactFormatQueryRow.holds Try.pinned (OpenSpec.ofChange fnExactFormatQuerySpec)

/-- ITS FALSE NEIGHBOUR: 'it returns false'. Refute it at one input. -/
def fnExactFormatQueryWrong : ChangeSpec := { name := "fnExactFormatQuery", fn := fun _ => fun
  | [d] => { results := [.lit (.bool false)], args := [d] }
  | _ => none }
def FnExactFormatQueryWrongFalsely : Prop := fnExactFormatQueryRow.holds Try.pinned (OpenSpec.ofChange fnExactFormatQueryWrong)

/-- 'laws.FnExactParseFact': WHATEVER THE INPUT: true; the input reads as it did. -/
def fnExactParseFactSpec : ChangeSpec := { name := "fnExactParseFact", fn := fun _ => fun
  | [d1, d2] => { results := [.lit (.bool true)], args := [d1, d2] }
  | _ => none }
def fnExactParseFactRow : OpenClaim := { program := "ytpfpappamlgnoaa", sum := "922b7f368e21772684fa3397db37a077a0ae42d56f85c6d61e128a0179229926", func := "loop.example/g01985/laws.FnExactParseFact", spec := "fnExactParseFact", apart := false }
def FnExactParseFactSaid : Prop := fnExactParseFactRow.holds Try.pinned (OpenSpec.ofChange fnExactParseFactSpec)

/-- ITS FALSE NEIGHBOUR: 'it returns false'. Refute it at one input. -/
def fnExactParseFactWrong : ChangeSpec := { name := "fnExactParseFact", fn := fun _ => fun
  | [d1, d2] => { results := [.lit (.bool false)], args := [d1, d2] }
  | _ => none }
def FnExactParseFactWrongFalsely : Prop := fnExactParseFactRow.holds Try.pinned (OpenSpec.ofChange fnExactParseFactWrong)

/-- 'laws.FnExactParseAtom': WHATEVER THE INPUT: true; the input reads as it did. -/
def fnExactParseAtomSpec : ChangeSpec := { name := "fnExactParseAtom", fn := fun _ => fun
  | [d] => { results := [.lit (.bool true)], args := [d] }
  | _ => none }
def fnExactParseAtomRow : OpenClaim := { program := "ytpfpappamlgnoaa", sum := "922b7f368e21772684fa3397db37a077a0ae42d56f85c6d61e128a0179229926", func := "loop.example/g01985/laws.FnExactParseAtom", spec := "fnExactParseAtom", apart := false }
def FnExactParseAtomSaid : Prop := fnExactParseAtomRow.holds Try.pinned (OpenSpec.ofChange fnExactParseAtomSpec)

/-- ITS FALSE NEIGHBOUR: 'it returns false'. Refute it at one input. -/
def fnExactParseAtomWrong : ChangeSpec := { name := "fnExactParseAtom", fn := fun _ => fun
  | [d] => { results := [.lit (.bool false)], args := [d] }
  | _ => none }
def FnExactParseAtomWrongFalsely : Prop := fnExactParseAtomRow.holds Try.pinned (OpenSpec.ofChange fnExactParseAtomWrong)

/-- 'laws.FnExactRemoveFact': WHATEVER THE INPUT: true; the input reads as it did. -/
def fnExactRemoveFactSpec : ChangeSpec := { name := "fnExactRemoveFact", fn := fun _ => fun
  | [d1, d2, d3] => { results := [.lit (.bool true)], args := [d1, d2, d3] }
  | _ => none }
def fnExactRemoveFactRow : OpenClaim := { program := "ytpfpappamlgnoaa", sum := "922b7f368e21772684fa3397db37a077a0ae42d56f85c6d61e128a0179229926", func := "loop.example/g01985/laws.FnExactRemoveFact", spec := "fnExactRemoveFact", apart := false }
def FnExactRemoveFactSaid : Prop := fnExactRemoveFactRow.holds Try.pinned (OpenSpec.ofChange fnExactRemoveFactSpec)

/-- ITS FALSE NEIGHBOUR: 'it returns false'. Refute it at one input. -/
def fnExactRemoveFactWrong : ChangeSpec := { name := "fnExactRemoveFact", fn := fun _ => fun
  | [d1, d2, d3] => { results := [.lit (.bool false)], args := [d1, d2, d3] }
  | _ => none }
def FnExactRemoveFactWrongFalsely : Prop := fnExactRemoveFactRow.holds Try.pinned (OpenSpec.ofChange fnExactRemoveFactWrong)

/-- 'laws.FnExactParseQuery': WHATEVER THE INPUT: true; the input reads as it did. -/
def fnExactParseQuerySpec : ChangeSpec := { name := "fnExactParseQuery", fn := fun _ => fun
  | [d1, d2] => { results := [.lit (.bool true)], args := [d1, d2] }
  | _ => none }
def fnExactParseQueryRow : OpenClaim := { program := "ytpfpappamlgnoaa", sum := "922b7f368e21772684fa3397db37a077a0ae42d56f85c6d61e128a0179229926", func := "loop.example/g01985/laws.FnExactParseQuery", spec := "fnExactParseQuery", apart := false }
def FnExactParseQuerySaid : Prop := fnExactParseQueryRow.holds Try.pinned (OpenSpec.ofChange fnExactParseQuerySpec)

/-- ITS FALSE NEIGHBOUR: 'it returns false'. Refute it at one input. -/
def fnExactParseQueryWrong : ChangeSpec := { name := "fnExactParseQuery", fn := fun _ => fun
  | [d1, d2] => { results := [.lit (.bool false)], args := [d1, d2] }
  | _ => none }
def FnExactParseQueryWrongFalsely : Prop := fnExactParseQueryRow.holds Try.pinned (OpenSpec.ofChange fnExactParseQueryWrong)

/- THE SECOND FORM. 'bulk': how many values and letters a reading holds, each counted each time it is reached (what is shared counts as often as it is met; a slice's spare places count too). A statement '..UptoSaid' is the law's where the arguments, and the package variables that the reading takes, are together of bulk at most 1048576: NARROWER than '..Said'. Prove '..Said' where nothing that the law and all that it calls make is longer than what came in: it says more and counts as full. Else prove '..UptoSaid'. A law counts once. -/
mutual
def uptoBulk {H : Type} : DataW H → Nat
  | .lit (.string bytes) => bytes.length + 1
  | .lit _ => 1
  | .nil => 1
  | .ptr d => uptoBulk d + 1
  | .slice elems spare => uptoBulkAll elems + uptoBulkAll spare + 1
  | .agg parts => uptoBulkAll parts + 1
  | .iface _ d => uptoBulk d + 1
  | .map entries => uptoBulkEntries entries + 1
  | .held _ => 1
def uptoBulkAll {H : Type} : List (DataW H) → Nat
  | [] => 0
  | d :: r => uptoBulk d + uptoBulkAll r
def uptoBulkEntries {H : Type} : List (Lit × DataW H) → Nat
  | [] => 0
  | x :: r => uptoBulkEntry x + uptoBulkEntries r
def uptoBulkEntry {H : Type} : Lit × DataW H → Nat
  | (.string bytes, d) => bytes.length + uptoBulk d + 1
  | (_, d) => uptoBulk d + 1
 end
def uptoSmall : (H : Type) → List (DataW H) → Bool := fun _ ds => decide (uptoBulkAll ds ≤ 1048576)
def OpenSpec.upto (s : _root_.Go.ChangeSpec) : _root_.Go.OpenSpec := { _root_.Go.OpenSpec.ofChange s with cond := some uptoSmall }

/-- 'laws.FnExactFormatMapping', WHERE WHAT IT READS IS OF BULK AT MOST 1048576: true; the input reads as it did. -/
def fnExactFormatMappingUptoRow : OpenClaim := { program := "ytpfpappamlgnoaa", sum := "922b7f368e21772684fa3397db37a077a0ae42d56f85c6d61e128a0179229926", func := "loop.example/g01985/laws.FnExactFormatMapping", spec := "fnExactFormatMapping", apart := false, narrowed := true }
def FnExactFormatMappingUptoSaid : Prop := fnExactFormatMappingUptoRow.holds Try.pinned (OpenSpec.upto fnExactFormatMappingSpec)

/-- 'laws.FnExactSameTuples', WHERE WHAT IT READS IS OF BULK AT MOST 1048576: true; the input reads as it did. -/
def fnExactSameTuplesUptoRow : OpenClaim := { program := "ytpfpappamlgnoaa", sum := "922b7f368e21772684fa3397db37a077a0ae42d56f85c6d61e128a0179229926", func := "loop.example/g01985/laws.FnExactSameTuples", spec := "fnExactSameTuples", apart := false, narrowed := true }
def FnExactSameTuplesUptoSaid : Prop := fnExactSameTuplesUptoRow.holds Try.pinned (OpenSpec.upto fnExactSameTuplesSpec)

/-- 'laws.FnExactParseTerm', WHERE WHAT IT READS IS OF BULK AT MOST 1048576: true; the input reads as it did. -/
def fnExactParseTermUptoRow : OpenClaim := { program := "ytpfpappamlgnoaa", sum := "922b7f368e21772684fa3397db37a077a0ae42d56f85c6d61e128a0179229926", func := "loop.example/g01985/laws.FnExactParseTerm", spec := "fnExactParseTerm", apart := false, narrowed := true }
def FnExactParseTermUptoSaid : Prop := fnExactParseTermUptoRow.holds Try.pinned (OpenSpec.upto fnExactParseTermSpec)

/-- 'laws.FnExactFormatAtom', WHERE WHAT IT READS IS OF BULK AT MOST 1048576: true; the input reads as it did. -/
def fnExactFormatAtomUptoRow : OpenClaim := { program := "ytpfpappamlgnoaa", sum := "922b7f368e21772684fa3397db37a077a0ae42d56f85c6d61e128a0179229926", func := "loop.example/g01985/laws.FnExactFormatAtom", spec := "fnExactFormatAtom", apart := false, narrowed := true }
def FnExactFormatAtomUptoSaid : Prop := fnExactFormatAtomUptoRow.holds Try.pinned (OpenSpec.upto fnExactFormatAtomSpec)

/-- 'laws.FnExactVarsOf', WHERE WHAT IT READS IS OF BULK AT MOST 1048576: true; the input reads as it did. -/
def fnExactVarsOfUptoRow : OpenClaim := { program := "ytpfpappamlgnoaa", sum := "922b7f368e21772684fa3397db37a077a0ae42d56f85c6d61e128a0179229926", func := "loop.example/g01985/laws.FnExactVarsOf", spec := "fnExactVarsOf", apart := false, narrowed := true }
def FnExactVarsOfUptoSaid : Prop := fnExactVarsOfUptoRow.holds Try.pinned (OpenSpec.upto fnExactVarsOfSpec)

/-- 'laws.FnExactIsDatabase', WHERE WHAT IT READS IS OF BULK AT MOST 1048576: true; the input reads as it did. -/
def fnExactIsDatabaseUptoRow : OpenClaim := { program := "ytpfpappamlgnoaa", sum := "922b7f368e21772684fa3397db37a077a0ae42d56f85c6d61e128a0179229926", func := "loop.example/g01985/laws.FnExactIsDatabase", spec := "fnExactIsDatabase", apart := false, narrowed := true }
def FnExactIsDatabaseUptoSaid : Prop := fnExactIsDatabaseUptoRow.holds Try.pinned (OpenSpec.upto fnExactIsDatabaseSpec)

/-- 'laws.FnExactIsQuery', WHERE WHAT IT READS IS OF BULK AT MOST 1048576: true; the input reads as it did. -/
def fnExactIsQueryUptoRow : OpenClaim := { program := "ytpfpappamlgnoaa", sum := "922b7f368e21772684fa3397db37a077a0ae42d56f85c6d61e128a0179229926", func := "loop.example/g01985/laws.FnExactIsQuery", spec := "fnExactIsQuery", apart := false, narrowed := true }
def FnExactIsQueryUptoSaid : Prop := fnExactIsQueryUptoRow.holds Try.pinned (OpenSpec.upto fnExactIsQuerySpec)

/-- 'laws.FnExactFormatQuery', WHERE WHAT IT READS IS OF BULK AT MOST 1048576: true; the input reads as it did. -/
def fnExactFormatQueryUptoRow : OpenClaim := { program := "ytpfpappamlgnoaa", sum := "922b7f368e21772684fa3397db37a077a0ae42d56f85c6d61e128a0179229926", func := "loop.example/g01985/laws.FnExactFormatQuery", spec := "fnExactFormatQuery", apart := false, narrowed := true }
def FnExactFormatQueryUptoSaid : Prop := fnExactFormatQueryUptoRow.holds Try.pinned (OpenSpec.upto fnExactFormatQuerySpec)

/-- 'laws.FnExactParseFact', WHERE WHAT IT READS IS OF BULK AT MOST 1048576: true; the input reads as it did. -/
def fnExactParseFactUptoRow : OpenClaim := { program := "ytpfpappamlgnoaa", sum := "922b7f368e21772684fa3397db37a077a0ae42d56f85c6d61e128a0179229926", func := "loop.example/g01985/laws.FnExactParseFact", spec := "fnExactParseFact", apart := false, narrowed := true }
def FnExactParseFactUptoSaid : Prop := fnExactParseFactUptoRow.holds Try.pinned (OpenSpec.upto fnExactParseFactSpec)

/-- 'laws.FnExactParseAtom', WHERE WHAT IT READS IS OF BULK AT MOST 1048576: true; the input reads as it did. -/
def fnExactParseAtomUptoRow : OpenClaim := { program := "ytpfpappamlgnoaa", sum := "922b7f368e21772684fa3397db37a077a0ae42d56f85c6d61e128a0179229926", func := "loop.example/g01985/laws.FnExactParseAtom", spec := "fnExactParseAtom", apart := false, narrowed := true }
def FnExactParseAtomUptoSaid : Prop := fnExactParseAtomUptoRow.holds Try.pinned (OpenSpec.upto fnExactParseAtomSpec)

/-- 'laws.FnExactRemoveFact', WHERE WHAT IT READS IS OF BULK AT MOST 1048576: true; the input reads as it did. -/
def fnExactRemoveFactUptoRow : OpenClaim := { program := "ytpfpappamlgnoaa", sum := "922b7f368e21772684fa3397db37a077a0ae42d56f85c6d61e128a0179229926", func := "loop.example/g01985/laws.FnExactRemoveFact", spec := "fnExactRemoveFact", apart := false, narrowed := true }
def FnExactRemoveFactUptoSaid : Prop := fnExactRemoveFactUptoRow.holds Try.pinned (OpenSpec.upto fnExactRemoveFactSpec)

/-- 'laws.FnExactParseQuery', WHERE WHAT IT READS IS OF BULK AT MOST 1048576: true; the input reads as it did. -/
def fnExactParseQueryUptoRow : OpenClaim := { program := "ytpfpappamlgnoaa", sum := "922b7f368e21772684fa3397db37a077a0ae42d56f85c6d61e128a0179229926", func := "loop.example/g01985/laws.FnExactParseQuery", spec := "fnExactParseQuery", apart := false, narrowed := true }
def FnExactParseQueryUptoSaid : Prop := fnExactParseQueryUptoRow.holds Try.pinned (OpenSpec.upto fnExactParseQuerySpec)

end Rows
end Go.Proofs.Ytpfpappamlgnoaa
