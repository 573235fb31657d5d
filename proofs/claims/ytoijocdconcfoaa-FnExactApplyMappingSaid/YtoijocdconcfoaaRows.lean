/-
  No cell of these rows narrows 'for every input' (looked for: loops, veiled, ifaces, maps, wideKeys, modest, calm, conditions, laid).
  DERIVED. THE GIVEN ROWS OF THIS SEAT. 12 by the template 'for every input the law returns true; each argument reads behind the call as it read before'; 0 by the template 'total and deterministic' (their statements: YtoijocdconcfoaaTotals.lean).
  GIVEN WITH THE SEED: the statements are not yours to turn. If you find one false, say at which input.
  Laid BY PROGRAM, IN A SANDBOX (cutbox-rows.mjs): the forced cells as the released guide's own fill.sh prints them over the translation 104b2b5c0e05a4a6… (all of the seat's roots in one cut). By AI agents, Wed Nov 11 2026. No macro, syntax, notation, axiom, sorry.
-/
import Derived.Test.YtoijocdconcfoaaChecked
import GoSem.Claim
import GoSem.ClaimJoined
import GoSem.ClaimMapViews
import Derived.JoinedTies
import Derived.KernelRfl
namespace Go.Proofs.Ytoijocdconcfoaa
/- THE CELL 'sum', in the pinned program and in every row, IS THE sha256 OF THE DUMP (.gsa) THAT YtoijocdconcfoaaProg.lean LOADS. Nothing in Lean hashes anything: it is a label: what it is worth is what the hold of that sum in a sandbox is worth. -/
noncomputable def Try.pinned : Pinned := { name := "ytoijocdconcfoaa", sum := "104b2b5c0e05a4a625246aa5f0acc40a918e338a465331e839cec9e01246966a", checked := Try.checked }
namespace Rows
def none {H : Type} : Left H := { results := [], args := [] }

/-- 'laws.FnExactConstants': WHATEVER THE INPUT: true; the input reads as it did. -/
def fnExactConstantsSpec : ChangeSpec := { name := "fnExactConstants", fn := fun _ => fun
  | [] => { results := [.lit (.bool true)], args := [] }
  | _ => none }
def fnExactConstantsRow : OpenClaim := { program := "ytoijocdconcfoaa", sum := "104b2b5c0e05a4a625246aa5f0acc40a918e338a465331e839cec9e01246966a", func := "loop.example/g01985/laws.FnExactConstants", spec := "fnExactConstants", apart := false }
def FnExactConstantsSaid : Prop := fnExactConstantsRow.holds Try.pinned (OpenSpec.ofChange fnExactConstantsSpec)

/-- ITS FALSE NEIGHBOUR: 'it returns false'. Refute it at one input. -/
def fnExactConstantsWrong : ChangeSpec := { name := "fnExactConstants", fn := fun _ => fun
  | [] => { results := [.lit (.bool false)], args := [] }
  | _ => none }
def FnExactConstantsWrongFalsely : Prop := fnExactConstantsRow.holds Try.pinned (OpenSpec.ofChange fnExactConstantsWrong)

/-- 'laws.FnExactIsVar': WHATEVER THE INPUT: true; the input reads as it did. -/
def fnExactIsVarSpec : ChangeSpec := { name := "fnExactIsVar", fn := fun _ => fun
  | [d] => { results := [.lit (.bool true)], args := [d] }
  | _ => none }
def fnExactIsVarRow : OpenClaim := { program := "ytoijocdconcfoaa", sum := "104b2b5c0e05a4a625246aa5f0acc40a918e338a465331e839cec9e01246966a", func := "loop.example/g01985/laws.FnExactIsVar", spec := "fnExactIsVar", apart := false }
def FnExactIsVarSaid : Prop := fnExactIsVarRow.holds Try.pinned (OpenSpec.ofChange fnExactIsVarSpec)

/-- ITS FALSE NEIGHBOUR: 'it returns false'. Refute it at one input. -/
def fnExactIsVarWrong : ChangeSpec := { name := "fnExactIsVar", fn := fun _ => fun
  | [d] => { results := [.lit (.bool false)], args := [d] }
  | _ => none }
def FnExactIsVarWrongFalsely : Prop := fnExactIsVarRow.holds Try.pinned (OpenSpec.ofChange fnExactIsVarWrong)

/-- 'laws.FnExactIsTerm': WHATEVER THE INPUT: true; the input reads as it did. -/
def fnExactIsTermSpec : ChangeSpec := { name := "fnExactIsTerm", fn := fun _ => fun
  | [d] => { results := [.lit (.bool true)], args := [d] }
  | _ => none }
def fnExactIsTermRow : OpenClaim := { program := "ytoijocdconcfoaa", sum := "104b2b5c0e05a4a625246aa5f0acc40a918e338a465331e839cec9e01246966a", func := "loop.example/g01985/laws.FnExactIsTerm", spec := "fnExactIsTerm", apart := false }
def FnExactIsTermSaid : Prop := fnExactIsTermRow.holds Try.pinned (OpenSpec.ofChange fnExactIsTermSpec)

/-- ITS FALSE NEIGHBOUR: 'it returns false'. Refute it at one input. -/
def fnExactIsTermWrong : ChangeSpec := { name := "fnExactIsTerm", fn := fun _ => fun
  | [d] => { results := [.lit (.bool false)], args := [d] }
  | _ => none }
def FnExactIsTermWrongFalsely : Prop := fnExactIsTermRow.holds Try.pinned (OpenSpec.ofChange fnExactIsTermWrong)

/-- 'laws.FnExactMakeConst': WHATEVER THE INPUT: true; the input reads as it did. -/
def fnExactMakeConstSpec : ChangeSpec := { name := "fnExactMakeConst", fn := fun _ => fun
  | [d] => { results := [.lit (.bool true)], args := [d] }
  | _ => none }
def fnExactMakeConstRow : OpenClaim := { program := "ytoijocdconcfoaa", sum := "104b2b5c0e05a4a625246aa5f0acc40a918e338a465331e839cec9e01246966a", func := "loop.example/g01985/laws.FnExactMakeConst", spec := "fnExactMakeConst", apart := false }
def FnExactMakeConstSaid : Prop := fnExactMakeConstRow.holds Try.pinned (OpenSpec.ofChange fnExactMakeConstSpec)

/-- ITS FALSE NEIGHBOUR: 'it returns false'. Refute it at one input. -/
def fnExactMakeConstWrong : ChangeSpec := { name := "fnExactMakeConst", fn := fun _ => fun
  | [d] => { results := [.lit (.bool false)], args := [d] }
  | _ => none }
def FnExactMakeConstWrongFalsely : Prop := fnExactMakeConstRow.holds Try.pinned (OpenSpec.ofChange fnExactMakeConstWrong)

/-- 'laws.FnExactEncodeHex': WHATEVER THE INPUT: true; the input reads as it did. -/
def fnExactEncodeHexSpec : ChangeSpec := { name := "fnExactEncodeHex", fn := fun _ => fun
  | [d] => { results := [.lit (.bool true)], args := [d] }
  | _ => none }
def fnExactEncodeHexRow : OpenClaim := { program := "ytoijocdconcfoaa", sum := "104b2b5c0e05a4a625246aa5f0acc40a918e338a465331e839cec9e01246966a", func := "loop.example/g01985/laws.FnExactEncodeHex", spec := "fnExactEncodeHex", apart := false }
def FnExactEncodeHexSaid : Prop := fnExactEncodeHexRow.holds Try.pinned (OpenSpec.ofChange fnExactEncodeHexSpec)

/-- ITS FALSE NEIGHBOUR: 'it returns false'. Refute it at one input. -/
def fnExactEncodeHexWrong : ChangeSpec := { name := "fnExactEncodeHex", fn := fun _ => fun
  | [d] => { results := [.lit (.bool false)], args := [d] }
  | _ => none }
def FnExactEncodeHexWrongFalsely : Prop := fnExactEncodeHexRow.holds Try.pinned (OpenSpec.ofChange fnExactEncodeHexWrong)

/-- 'laws.FnExactConstOf': WHATEVER THE INPUT: true; the input reads as it did. -/
def fnExactConstOfSpec : ChangeSpec := { name := "fnExactConstOf", fn := fun _ => fun
  | [d] => { results := [.lit (.bool true)], args := [d] }
  | _ => none }
def fnExactConstOfRow : OpenClaim := { program := "ytoijocdconcfoaa", sum := "104b2b5c0e05a4a625246aa5f0acc40a918e338a465331e839cec9e01246966a", func := "loop.example/g01985/laws.FnExactConstOf", spec := "fnExactConstOf", apart := false }
def FnExactConstOfSaid : Prop := fnExactConstOfRow.holds Try.pinned (OpenSpec.ofChange fnExactConstOfSpec)

/-- ITS FALSE NEIGHBOUR: 'it returns false'. Refute it at one input. -/
def fnExactConstOfWrong : ChangeSpec := { name := "fnExactConstOf", fn := fun _ => fun
  | [d] => { results := [.lit (.bool false)], args := [d] }
  | _ => none }
def FnExactConstOfWrongFalsely : Prop := fnExactConstOfRow.holds Try.pinned (OpenSpec.ofChange fnExactConstOfWrong)

/-- 'laws.FnExactDecodeFixed': WHATEVER THE INPUT: true; the input reads as it did. -/
def fnExactDecodeFixedSpec : ChangeSpec := { name := "fnExactDecodeFixed", fn := fun _ => fun
  | [d1, d2] => { results := [.lit (.bool true)], args := [d1, d2] }
  | _ => none }
def fnExactDecodeFixedRow : OpenClaim := { program := "ytoijocdconcfoaa", sum := "104b2b5c0e05a4a625246aa5f0acc40a918e338a465331e839cec9e01246966a", func := "loop.example/g01985/laws.FnExactDecodeFixed", spec := "fnExactDecodeFixed", apart := false }
def FnExactDecodeFixedSaid : Prop := fnExactDecodeFixedRow.holds Try.pinned (OpenSpec.ofChange fnExactDecodeFixedSpec)

/-- ITS FALSE NEIGHBOUR: 'it returns false'. Refute it at one input. -/
def fnExactDecodeFixedWrong : ChangeSpec := { name := "fnExactDecodeFixed", fn := fun _ => fun
  | [d1, d2] => { results := [.lit (.bool false)], args := [d1, d2] }
  | _ => none }
def FnExactDecodeFixedWrongFalsely : Prop := fnExactDecodeFixedRow.holds Try.pinned (OpenSpec.ofChange fnExactDecodeFixedWrong)

/-- 'laws.FnExactEncodeVarint': WHATEVER THE INPUT: true; the input reads as it did. -/
def fnExactEncodeVarintSpec : ChangeSpec := { name := "fnExactEncodeVarint", fn := fun _ => fun
  | [d] => { results := [.lit (.bool true)], args := [d] }
  | _ => none }
def fnExactEncodeVarintRow : OpenClaim := { program := "ytoijocdconcfoaa", sum := "104b2b5c0e05a4a625246aa5f0acc40a918e338a465331e839cec9e01246966a", func := "loop.example/g01985/laws.FnExactEncodeVarint", spec := "fnExactEncodeVarint", apart := false }
def FnExactEncodeVarintSaid : Prop := fnExactEncodeVarintRow.holds Try.pinned (OpenSpec.ofChange fnExactEncodeVarintSpec)

/-- ITS FALSE NEIGHBOUR: 'it returns false'. Refute it at one input. -/
def fnExactEncodeVarintWrong : ChangeSpec := { name := "fnExactEncodeVarint", fn := fun _ => fun
  | [d] => { results := [.lit (.bool false)], args := [d] }
  | _ => none }
def FnExactEncodeVarintWrongFalsely : Prop := fnExactEncodeVarintRow.holds Try.pinned (OpenSpec.ofChange fnExactEncodeVarintWrong)

/-- 'laws.FnExactEncodeFixed': WHATEVER THE INPUT: true; the input reads as it did. -/
def fnExactEncodeFixedSpec : ChangeSpec := { name := "fnExactEncodeFixed", fn := fun _ => fun
  | [d1, d2] => { results := [.lit (.bool true)], args := [d1, d2] }
  | _ => none }
def fnExactEncodeFixedRow : OpenClaim := { program := "ytoijocdconcfoaa", sum := "104b2b5c0e05a4a625246aa5f0acc40a918e338a465331e839cec9e01246966a", func := "loop.example/g01985/laws.FnExactEncodeFixed", spec := "fnExactEncodeFixed", apart := false }
def FnExactEncodeFixedSaid : Prop := fnExactEncodeFixedRow.holds Try.pinned (OpenSpec.ofChange fnExactEncodeFixedSpec)

/-- ITS FALSE NEIGHBOUR: 'it returns false'. Refute it at one input. -/
def fnExactEncodeFixedWrong : ChangeSpec := { name := "fnExactEncodeFixed", fn := fun _ => fun
  | [d1, d2] => { results := [.lit (.bool false)], args := [d1, d2] }
  | _ => none }
def FnExactEncodeFixedWrongFalsely : Prop := fnExactEncodeFixedRow.holds Try.pinned (OpenSpec.ofChange fnExactEncodeFixedWrong)

/-- 'laws.FnExactApplyMapping': WHATEVER THE INPUT: true; the input reads as it did. -/
def fnExactApplyMappingSpec : ChangeSpec := { name := "fnExactApplyMapping", fn := fun _ => fun
  | [d1, d2] => { results := [.lit (.bool true)], args := [d1, d2] }
  | _ => none }
def fnExactApplyMappingRow : OpenClaim := { program := "ytoijocdconcfoaa", sum := "104b2b5c0e05a4a625246aa5f0acc40a918e338a465331e839cec9e01246966a", func := "loop.example/g01985/laws.FnExactApplyMapping", spec := "fnExactApplyMapping", apart := false }
def FnExactApplyMappingSaid : Prop := fnExactApplyMappingRow.holds Try.pinned (OpenSpec.ofChange fnExactApplyMappingSpec)

/-- ITS FALSE NEIGHBOUR: 'it returns false'. Refute it at one input. -/
def fnExactApplyMappingWrong : ChangeSpec := { name := "fnExactApplyMapping", fn := fun _ => fun
  | [d1, d2] => { results := [.lit (.bool false)], args := [d1, d2] }
  | _ => none }
def FnExactApplyMappingWrongFalsely : Prop := fnExactApplyMappingRow.holds Try.pinned (OpenSpec.ofChange fnExactApplyMappingWrong)

/-- 'laws.FnExactFormatInt': WHATEVER THE INPUT: true; the input reads as it did. -/
def fnExactFormatIntSpec : ChangeSpec := { name := "fnExactFormatInt", fn := fun _ => fun
  | [d] => { results := [.lit (.bool true)], args := [d] }
  | _ => none }
def fnExactFormatIntRow : OpenClaim := { program := "ytoijocdconcfoaa", sum := "104b2b5c0e05a4a625246aa5f0acc40a918e338a465331e839cec9e01246966a", func := "loop.example/g01985/laws.FnExactFormatInt", spec := "fnExactFormatInt", apart := false }
def FnExactFormatIntSaid : Prop := fnExactFormatIntRow.holds Try.pinned (OpenSpec.ofChange fnExactFormatIntSpec)

/-- ITS FALSE NEIGHBOUR: 'it returns false'. Refute it at one input. -/
def fnExactFormatIntWrong : ChangeSpec := { name := "fnExactFormatInt", fn := fun _ => fun
  | [d] => { results := [.lit (.bool false)], args := [d] }
  | _ => none }
def FnExactFormatIntWrongFalsely : Prop := fnExactFormatIntRow.holds Try.pinned (OpenSpec.ofChange fnExactFormatIntWrong)

/-- 'laws.FnExactDecodeHex': WHATEVER THE INPUT: true; the input reads as it did. -/
def fnExactDecodeHexSpec : ChangeSpec := { name := "fnExactDecodeHex", fn := fun _ => fun
  | [d] => { results := [.lit (.bool true)], args := [d] }
  | _ => none }
def fnExactDecodeHexRow : OpenClaim := { program := "ytoijocdconcfoaa", sum := "104b2b5c0e05a4a625246aa5f0acc40a918e338a465331e839cec9e01246966a", func := "loop.example/g01985/laws.FnExactDecodeHex", spec := "fnExactDecodeHex", apart := false }
def FnExactDecodeHexSaid : Prop := fnExactDecodeHexRow.holds Try.pinned (OpenSpec.ofChange fnExactDecodeHexSpec)

/-- ITS FALSE NEIGHBOUR: 'it returns false'. Refute it at one input. -/
def fnExactDecodeHexWrong : ChangeSpec := { name := "fnExactDecodeHex", fn := fun _ => fun
  | [d] => { results := [.lit (.bool false)], args := [d] }
  | _ => none }
def FnExactDecodeHexWrongFalsely : Prop := fnExactDecodeHexRow.holds Try.pinned (OpenSpec.ofChange fnExactDecodeHexWrong)

/- THE SECOND FORM. 'bulk': how many values and letters a reading holds, each counted each time it is reached (what is shared counts as often as it is met; a slice's spare places count too). A statement '..UptoSaid' is the law's where the arguments, and the package variables that the reading takes, are together of bulk at most 1048576: NARROWER than '..Said'. Prove '..Said' where nothing that the law and all that it calls make is longer than what came in: it says more and counts as full. Else prove '..UptoSaid'. A law counts once. -/
mutual
def uptoBulk {H : Type} : DataW H → Nat
  | .lit (.string bytes) => bytes.length + 1
  | .lit _ => 1
  | .nil => 1
  | .ptr d => uptoBulk d + 1
  | .slice elems spare => uptoBulkAll elems + uptoBulkAll spare + 1
  | .agg parts => uptoBulkAll parts + 1
  | .iface _ d => uptoBulk d + 1
  | .map entries => uptoBulkEntries entries + 1
  | .held _ => 1
def uptoBulkAll {H : Type} : List (DataW H) → Nat
  | [] => 0
  | d :: r => uptoBulk d + uptoBulkAll r
def uptoBulkEntries {H : Type} : List (Lit × DataW H) → Nat
  | [] => 0
  | x :: r => uptoBulkEntry x + uptoBulkEntries r
def uptoBulkEntry {H : Type} : Lit × DataW H → Nat
  | (.string bytes, d) => bytes.length + uptoBulk d + 1
  | (_, d) => uptoBulk d + 1
 end
def uptoSmall : (H : Type) → List (DataW H) → Bool := fun _ ds => decide (uptoBulkAll ds ≤ 1048576)
def OpenSpec.upto (s : _root_.Go.ChangeSpec) : _root_.Go.OpenSpec := { _root_.Go.OpenSpec.ofChange s with cond := some uptoSmall }

/-- 'laws.FnExactConstants', WHERE WHAT IT READS IS OF BULK AT MOST 1048576: true; the input reads as it did. -/
def fnExactConstantsUptoRow : OpenClaim := { program := "ytoijocdconcfoaa", sum := "104b2b5c0e05a4a625246aa5f0acc40a918e338a465331e839cec9e01246966a", func := "loop.example/g01985/laws.FnExactConstants", spec := "fnExactConstants", apart := false, narrowed := true }
def FnExactConstantsUptoSaid : Prop := fnExactConstantsUptoRow.holds Try.pinned (OpenSpec.upto fnExactConstantsSpec)

/-- 'laws.FnExactIsVar', WHERE WHAT IT READS IS OF BULK AT MOST 1048576: true; the input reads as it did. -/
def fnExactIsVarUptoRow : OpenClaim := { program := "ytoijocdconcfoaa", sum := "104b2b5c0e05a4a625246aa5f0acc40a918e338a465331e839cec9e01246966a", func := "loop.example/g01985/laws.FnExactIsVar", spec := "fnExactIsVar", apart := false, narrowed := true }
def FnExactIsVarUptoSaid : Prop := fnExactIsVarUptoRow.holds Try.pinned (OpenSpec.upto fnExactIsVarSpec)

/-- 'laws.FnExactIsTerm', WHERE WHAT IT READS IS OF BULK AT MOST 1048576: true; the input reads as it did. -/
def fnExactIsTermUptoRow : OpenClaim := { program := "ytoijocdconcfoaa", sum := "104b2b5c0e05a4a625246aa5f0acc40a918e338a465331e839cec9e01246966a", func := "loop.example/g01985/laws.FnExactIsTerm", spec := "fnExactIsTerm", apart := false, narrowed := true }
def FnExactIsTermUptoSaid : Prop := fnExactIsTermUptoRow.holds Try.pinned (OpenSpec.upto fnExactIsTermSpec)

/-- 'laws.FnExactMakeConst', WHERE WHAT IT READS IS OF BULK AT MOST 1048576: true; the input reads as it did. -/
def fnExactMakeConstUptoRow : OpenClaim := { program := "ytoijocdconcfoaa", sum := "104b2b5c0e05a4a625246aa5f0acc40a918e338a465331e839cec9e01246966a", func := "loop.example/g01985/laws.FnExactMakeConst", spec := "fnExactMakeConst", apart := false, narrowed := true }
def FnExactMakeConstUptoSaid : Prop := fnExactMakeConstUptoRow.holds Try.pinned (OpenSpec.upto fnExactMakeConstSpec)

/-- 'laws.FnExactEncodeHex', WHERE WHAT IT READS IS OF BULK AT MOST 1048576: true; the input reads as it did. -/
def fnExactEncodeHexUptoRow : OpenClaim := { program := "ytoijocdconcfoaa", sum := "104b2b5c0e05a4a625246aa5f0acc40a918e338a465331e839cec9e01246966a", func := "loop.example/g01985/laws.FnExactEncodeHex", spec := "fnExactEncodeHex", apart := false, narrowed := true }
def FnExactEncodeHexUptoSaid : Prop := fnExactEncodeHexUptoRow.holds Try.pinned (OpenSpec.upto fnExactEncodeHexSpec)

/-- 'laws.FnExactConstOf', WHERE WHAT IT READS IS OF BULK AT MOST 1048576: true; the input reads as it did. -/
def fnExactConstOfUptoRow : OpenClaim := { program := "ytoijocdconcfoaa", sum := "104b2b5c0e05a4a625246aa5f0acc40a918e338a465331e839cec9e01246966a", func := "loop.example/g01985/laws.FnExactConstOf", spec := "fnExactConstOf", apart := false, narrowed := true }
def FnExactConstOfUptoSaid : Prop := fnExactConstOfUptoRow.holds Try.pinned (OpenSpec.upto fnExactConstOfSpec)

/-- 'laws.FnExactDecodeFixed', WHERE WHAT IT READS IS OF BULK AT MOST 1048576: true; the input reads as it did. -/
def fnExactDecodeFixedUptoRow : OpenClaim := { program := "ytoijocdconcfoaa", sum := "104b2b5c0e05a4a625246aa5f0acc40a918e338a465331e839cec9e01246966a", func := "loop.example/g01985/laws.FnExactDecodeFixed", spec := "fnExactDecodeFixed", apart := false, narrowed := true }
def FnExactDecodeFixedUptoSaid : Prop := fnExactDecodeFixedUptoRow.holds Try.pinned (OpenSpec.upto fnExactDecodeFixedSpec)

/-- 'laws.FnExactEncodeVarint', WHERE WHAT IT READS IS OF BULK AT MOST 1048576: true; the input reads as it did. -/
def fnExactEncodeVarintUptoRow : OpenClaim := { program := "ytoijocdconcfoaa", sum := "104b2b5c0e05a4a625246aa5f0acc40a918e338a465331e839cec9e01246966a", func := "loop.example/g01985/laws.FnExactEncodeVarint", spec := "fnExactEncodeVarint", apart := false, narrowed := true }
def FnExactEncodeVarintUptoSaid : Prop := fnExactEncodeVarintUptoRow.holds Try.pinned (OpenSpec.upto fnExactEncodeVarintSpec)

/-- 'laws.FnExactEncodeFixed', WHERE WHAT IT READS IS OF BULK AT MOST 1048576: true; the input reads as it did. -/
def fnExactEncodeFixedUptoRow : OpenClaim := { program := "ytoijocdconcfoaa", sum := "104b2b5c0e05a4a625246aa5f0acc40a918e338a465331e839cec9e01246966a", func := "loop.example/g01985/laws.FnExactEncodeFixed", spec := "fnExactEncodeFixed", apart := false, narrowed := true }
def FnExactEncodeFixedUptoSaid : Prop := fnExactEncodeFixedUptoRow.holds Try.pinned (OpenSpec.upto fnExactEncodeFixedSpec)

/-- 'laws.FnExactApplyMapping', WHERE WHAT IT READS IS OF BULK AT MOST 1048576: true; the input reads as it did. -/
def fnExactApplyMappingUptoRow : OpenClaim := { program := "ytoijocdconcfoaa", sum := "104b2b5c0e05a4a625246aa5f0acc40a918e338a465331e839cec9e01246966a", func := "loop.example/g01985/laws.FnExactApplyMapping", spec := "fnExactApplyMapping", apart := false, narrowed := true }
def FnExactApplyMappingUptoSaid : Prop := fnExactApplyMappingUptoRow.holds Try.pinned (OpenSpec.upto fnExactApplyMappingSpec)

/-- 'laws.FnExactFormatInt', WHERE WHAT IT READS IS OF BULK AT MOST 1048576: true; the input reads as it did. -/
def fnExactFormatIntUptoRow : OpenClaim := { program := "ytoijocdconcfoaa", sum := "104b2b5c0e05a4a625246aa5f0acc40a918e338a465331e839cec9e01246966a", func := "loop.example/g01985/laws.FnExactFormatInt", spec := "fnExactFormatInt", apart := false, narrowed := true }
def FnExactFormatIntUptoSaid : Prop := fnExactFormatIntUptoRow.holds Try.pinned (OpenSpec.upto fnExactFormatIntSpec)

/-- 'laws.FnExactDecodeHex', WHERE WHAT IT READS IS OF BULK AT MOST 1048576: true; the input reads as it did. -/
def fnExactDecodeHexUptoRow : OpenClaim := { program := "ytoijocdconcfoaa", sum := "104b2b5c0e05a4a625246aa5f0acc40a918e338a465331e839cec9e01246966a", func := "loop.example/g01985/laws.FnExactDecodeHex", spec := "fnExactDecodeHex", apart := false, narrowed := true }
def FnExactDecodeHexUptoSaid : Prop := fnExactDecodeHexUptoRow.holds Try.pinned (OpenSpec.upto fnExactDecodeHexSpec)

end Rows
end Go.Proofs.Ytoijocdconcfoaa
