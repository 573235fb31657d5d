/-
  No cell of these rows narrows 'for every input' (looked for: loops, veiled, ifaces, maps, wideKeys, modest, calm, conditions, laid).
  DERIVED. THE GIVEN ROWS OF THIS SEAT. 12 by the template 'for every input the law returns true; each argument reads behind the call as it read before'; 0 by the template 'total and deterministic' (their statements: YtanmidjjcfkpeaaTotals.lean).
  GIVEN WITH THE SEED: the statements are not yours to turn. If you find one false, say at which input.
  Laid BY PROGRAM, IN A SANDBOX (cutbox-rows.mjs): the forced cells as the released guide's own fill.sh prints them over the translation d14e4010a0e77b1c… (all of the seat's roots in one cut). By AI agents, Wed Nov 11 2026. No macro, syntax, notation, axiom, sorry.
-/
import Derived.Test.YtanmidjjcfkpeaaChecked
import GoSem.Claim
import GoSem.ClaimJoined
import GoSem.ClaimMapViews
import Derived.JoinedTies
import Derived.KernelRfl
namespace Go.Proofs.Ytanmidjjcfkpeaa
/- THE CELL 'sum', in the pinned program and in every row, IS THE sha256 OF THE DUMP (.gsa) THAT YtanmidjjcfkpeaaProg.lean LOADS. Nothing in Lean hashes anything: it is a label: what it is worth is what the hold of that sum in a sandbox is worth. -/
noncomputable def Try.pinned : Pinned := { name := "ytanmidjjcfkpeaa", sum := "d14e4010a0e77b1c01e5f5cdac78b9f0476cc8391d534681382ab835c8888151", checked := Try.checked }
namespace Rows
def none {H : Type} : Left H := { results := [], args := [] }

/-- 'laws.FnExactDecodeVarint': WHATEVER THE INPUT: true; the input reads as it did. -/
def fnExactDecodeVarintSpec : ChangeSpec := { name := "fnExactDecodeVarint", fn := fun _ => fun
  | [d] => { results := [.lit (.bool true)], args := [d] }
  | _ => none }
def fnExactDecodeVarintRow : OpenClaim := { program := "ytanmidjjcfkpeaa", sum := "d14e4010a0e77b1c01e5f5cdac78b9f0476cc8391d534681382ab835c8888151", func := "loop.example/g01985/laws.FnExactDecodeVarint", spec := "fnExactDecodeVarint", apart := false }
def FnExactDecodeVarintSaid : Prop := fnExactDecodeVarintRow.holds Try.pinned (OpenSpec.ofChange fnExactDecodeVarintSpec)

/-- ITS FALSE NEIGHBOUR: 'it returns false'. Refute it at one input. -/
def fnExactDecodeVarintWrong : ChangeSpec := { name := "fnExactDecodeVarint", fn := fun _ => fun
  | [d] => { results := [.lit (.bool false)], args := [d] }
  | _ => none }
def FnExactDecodeVarintWrongFalsely : Prop := fnExactDecodeVarintRow.holds Try.pinned (OpenSpec.ofChange fnExactDecodeVarintWrong)

/-- 'laws.FnExactUnfreeze': WHATEVER THE INPUT: true; the input reads as it did. -/
def fnExactUnfreezeSpec : ChangeSpec := { name := "fnExactUnfreeze", fn := fun _ => fun
  | [d] => { results := [.lit (.bool true)], args := [d] }
  | _ => none }
def fnExactUnfreezeRow : OpenClaim := { program := "ytanmidjjcfkpeaa", sum := "d14e4010a0e77b1c01e5f5cdac78b9f0476cc8391d534681382ab835c8888151", func := "loop.example/g01985/laws.FnExactUnfreeze", spec := "fnExactUnfreeze", apart := false }
def FnExactUnfreezeSaid : Prop := fnExactUnfreezeRow.holds Try.pinned (OpenSpec.ofChange fnExactUnfreezeSpec)

/-- ITS FALSE NEIGHBOUR: 'it returns false'. Refute it at one input. -/
def fnExactUnfreezeWrong : ChangeSpec := { name := "fnExactUnfreeze", fn := fun _ => fun
  | [d] => { results := [.lit (.bool false)], args := [d] }
  | _ => none }
def FnExactUnfreezeWrongFalsely : Prop := fnExactUnfreezeRow.holds Try.pinned (OpenSpec.ofChange fnExactUnfreezeWrong)

/-- 'laws.FnExactIsSchema': WHATEVER THE INPUT: true; the input reads as it did. -/
def fnExactIsSchemaSpec : ChangeSpec := { name := "fnExactIsSchema", fn := fun _ => fun
  | [d] => { results := [.lit (.bool true)], args := [d] }
  | _ => none }
def fnExactIsSchemaRow : OpenClaim := { program := "ytanmidjjcfkpeaa", sum := "d14e4010a0e77b1c01e5f5cdac78b9f0476cc8391d534681382ab835c8888151", func := "loop.example/g01985/laws.FnExactIsSchema", spec := "fnExactIsSchema", apart := false }
def FnExactIsSchemaSaid : Prop := fnExactIsSchemaRow.holds Try.pinned (OpenSpec.ofChange fnExactIsSchemaSpec)

/-- ITS FALSE NEIGHBOUR: 'it returns false'. Refute it at one input. -/
def fnExactIsSchemaWrong : ChangeSpec := { name := "fnExactIsSchema", fn := fun _ => fun
  | [d] => { results := [.lit (.bool false)], args := [d] }
  | _ => none }
def FnExactIsSchemaWrongFalsely : Prop := fnExactIsSchemaRow.holds Try.pinned (OpenSpec.ofChange fnExactIsSchemaWrong)

/-- 'laws.FnExactComposeMappings': WHATEVER THE INPUT: true; the input reads as it did. -/
def fnExactComposeMappingsSpec : ChangeSpec := { name := "fnExactComposeMappings", fn := fun _ => fun
  | [d1, d2] => { results := [.lit (.bool true)], args := [d1, d2] }
  | _ => none }
def fnExactComposeMappingsRow : OpenClaim := { program := "ytanmidjjcfkpeaa", sum := "d14e4010a0e77b1c01e5f5cdac78b9f0476cc8391d534681382ab835c8888151", func := "loop.example/g01985/laws.FnExactComposeMappings", spec := "fnExactComposeMappings", apart := false }
def FnExactComposeMappingsSaid : Prop := fnExactComposeMappingsRow.holds Try.pinned (OpenSpec.ofChange fnExactComposeMappingsSpec)

/-- ITS FALSE NEIGHBOUR: 'it returns false'. Refute it at one input. -/
def fnExactComposeMappingsWrong : ChangeSpec := { name := "fnExactComposeMappings", fn := fun _ => fun
  | [d1, d2] => { results := [.lit (.bool false)], args := [d1, d2] }
  | _ => none }
def FnExactComposeMappingsWrongFalsely : Prop := fnExactComposeMappingsRow.holds Try.pinned (OpenSpec.ofChange fnExactComposeMappingsWrong)

/-- 'laws.FnExactEqualAtoms': WHATEVER THE INPUT: true; the input reads as it did. -/
def fnExactEqualAtomsSpec : ChangeSpec := { name := "fnExactEqualAtoms", fn := fun _ => fun
  | [d1, d2] => { results := [.lit (.bool true)], args := [d1, d2] }
  | _ => none }
def fnExactEqualAtomsRow : OpenClaim := { program := "ytanmidjjcfkpeaa", sum := "d14e4010a0e77b1c01e5f5cdac78b9f0476cc8391d534681382ab835c8888151", func := "loop.example/g01985/laws.FnExactEqualAtoms", spec := "fnExactEqualAtoms", apart := false }
def FnExactEqualAtomsSaid : Prop := fnExactEqualAtomsRow.holds Try.pinned (OpenSpec.ofChange fnExactEqualAtomsSpec)

/-- ITS FALSE NEIGHBOUR: 'it returns false'. Refute it at one input. -/
def fnExactEqualAtomsWrong : ChangeSpec := { name := "fnExactEqualAtoms", fn := fun _ => fun
  | [d1, d2] => { results := [.lit (.bool false)], args := [d1, d2] }
  | _ => none }
def FnExactEqualAtomsWrongFalsely : Prop := fnExactEqualAtomsRow.holds Try.pinned (OpenSpec.ofChange fnExactEqualAtomsWrong)

/-- 'laws.FnExactFormatTerm': WHATEVER THE INPUT: true; the input reads as it did. -/
def fnExactFormatTermSpec : ChangeSpec := { name := "fnExactFormatTerm", fn := fun _ => fun
  | [d] => { results := [.lit (.bool true)], args := [d] }
  | _ => none }
def fnExactFormatTermRow : OpenClaim := { program := "ytanmidjjcfkpeaa", sum := "d14e4010a0e77b1c01e5f5cdac78b9f0476cc8391d534681382ab835c8888151", func := "loop.example/g01985/laws.FnExactFormatTerm", spec := "fnExactFormatTerm", apart := false }
def FnExactFormatTermSaid : Prop := fnExactFormatTermRow.holds Try.pinned (OpenSpec.ofChange fnExactFormatTermSpec)

/-- ITS FALSE NEIGHBOUR: 'it returns false'. Refute it at one input. -/
def fnExactFormatTermWrong : ChangeSpec := { name := "fnExactFormatTerm", fn := fun _ => fun
  | [d] => { results := [.lit (.bool false)], args := [d] }
  | _ => none }
def FnExactFormatTermWrongFalsely : Prop := fnExactFormatTermRow.holds Try.pinned (OpenSpec.ofChange fnExactFormatTermWrong)

/-- 'laws.FnExactParseInt': WHATEVER THE INPUT: true; the input reads as it did. -/
def fnExactParseIntSpec : ChangeSpec := { name := "fnExactParseInt", fn := fun _ => fun
  | [d] => { results := [.lit (.bool true)], args := [d] }
  | _ => none }
def fnExactParseIntRow : OpenClaim := { program := "ytanmidjjcfkpeaa", sum := "d14e4010a0e77b1c01e5f5cdac78b9f0476cc8391d534681382ab835c8888151", func := "loop.example/g01985/laws.FnExactParseInt", spec := "fnExactParseInt", apart := false }
def FnExactParseIntSaid : Prop := fnExactParseIntRow.holds Try.pinned (OpenSpec.ofChange fnExactParseIntSpec)

/-- ITS FALSE NEIGHBOUR: 'it returns false'. Refute it at one input. -/
def fnExactParseIntWrong : ChangeSpec := { name := "fnExactParseInt", fn := fun _ => fun
  | [d] => { results := [.lit (.bool false)], args := [d] }
  | _ => none }
def FnExactParseIntWrongFalsely : Prop := fnExactParseIntRow.holds Try.pinned (OpenSpec.ofChange fnExactParseIntWrong)

/-- 'laws.FnExactLessAtom': WHATEVER THE INPUT: true; the input reads as it did. -/
def fnExactLessAtomSpec : ChangeSpec := { name := "fnExactLessAtom", fn := fun _ => fun
  | [d1, d2] => { results := [.lit (.bool true)], args := [d1, d2] }
  | _ => none }
def fnExactLessAtomRow : OpenClaim := { program := "ytanmidjjcfkpeaa", sum := "d14e4010a0e77b1c01e5f5cdac78b9f0476cc8391d534681382ab835c8888151", func := "loop.example/g01985/laws.FnExactLessAtom", spec := "fnExactLessAtom", apart := false }
def FnExactLessAtomSaid : Prop := fnExactLessAtomRow.holds Try.pinned (OpenSpec.ofChange fnExactLessAtomSpec)

/-- ITS FALSE NEIGHBOUR: 'it returns false'. Refute it at one input. -/
def fnExactLessAtomWrong : ChangeSpec := { name := "fnExactLessAtom", fn := fun _ => fun
  | [d1, d2] => { results := [.lit (.bool false)], args := [d1, d2] }
  | _ => none }
def FnExactLessAtomWrongFalsely : Prop := fnExactLessAtomRow.holds Try.pinned (OpenSpec.ofChange fnExactLessAtomWrong)

/-- 'laws.FnExactIsFact': WHATEVER THE INPUT: true; the input reads as it did. -/
def fnExactIsFactSpec : ChangeSpec := { name := "fnExactIsFact", fn := fun _ => fun
  | [d1, d2] => { results := [.lit (.bool true)], args := [d1, d2] }
  | _ => none }
def fnExactIsFactRow : OpenClaim := { program := "ytanmidjjcfkpeaa", sum := "d14e4010a0e77b1c01e5f5cdac78b9f0476cc8391d534681382ab835c8888151", func := "loop.example/g01985/laws.FnExactIsFact", spec := "fnExactIsFact", apart := false }
def FnExactIsFactSaid : Prop := fnExactIsFactRow.holds Try.pinned (OpenSpec.ofChange fnExactIsFactSpec)

/-- ITS FALSE NEIGHBOUR: 'it returns false'. Refute it at one input. -/
def fnExactIsFactWrong : ChangeSpec := { name := "fnExactIsFact", fn := fun _ => fun
  | [d1, d2] => { results := [.lit (.bool false)], args := [d1, d2] }
  | _ => none }
def FnExactIsFactWrongFalsely : Prop := fnExactIsFactRow.holds Try.pinned (OpenSpec.ofChange fnExactIsFactWrong)

/-- 'laws.FnExactIsAtom': WHATEVER THE INPUT: true; the input reads as it did. -/
def fnExactIsAtomSpec : ChangeSpec := { name := "fnExactIsAtom", fn := fun _ => fun
  | [d1, d2] => { results := [.lit (.bool true)], args := [d1, d2] }
  | _ => none }
def fnExactIsAtomRow : OpenClaim := { program := "ytanmidjjcfkpeaa", sum := "d14e4010a0e77b1c01e5f5cdac78b9f0476cc8391d534681382ab835c8888151", func := "loop.example/g01985/laws.FnExactIsAtom", spec := "fnExactIsAtom", apart := false }
def FnExactIsAtomSaid : Prop := fnExactIsAtomRow.holds Try.pinned (OpenSpec.ofChange fnExactIsAtomSpec)

/-- ITS FALSE NEIGHBOUR: 'it returns false'. Refute it at one input. -/
def fnExactIsAtomWrong : ChangeSpec := { name := "fnExactIsAtom", fn := fun _ => fun
  | [d1, d2] => { results := [.lit (.bool false)], args := [d1, d2] }
  | _ => none }
def FnExactIsAtomWrongFalsely : Prop := fnExactIsAtomRow.holds Try.pinned (OpenSpec.ofChange fnExactIsAtomWrong)

/-- 'laws.FnExactHasFact': WHATEVER THE INPUT: true; the input reads as it did. -/
def fnExactHasFactSpec : ChangeSpec := { name := "fnExactHasFact", fn := fun _ => fun
  | [d1, d2] => { results := [.lit (.bool true)], args := [d1, d2] }
  | _ => none }
def fnExactHasFactRow : OpenClaim := { program := "ytanmidjjcfkpeaa", sum := "d14e4010a0e77b1c01e5f5cdac78b9f0476cc8391d534681382ab835c8888151", func := "loop.example/g01985/laws.FnExactHasFact", spec := "fnExactHasFact", apart := false }
def FnExactHasFactSaid : Prop := fnExactHasFactRow.holds Try.pinned (OpenSpec.ofChange fnExactHasFactSpec)

/-- ITS FALSE NEIGHBOUR: 'it returns false'. Refute it at one input. -/
def fnExactHasFactWrong : ChangeSpec := { name := "fnExactHasFact", fn := fun _ => fun
  | [d1, d2] => { results := [.lit (.bool false)], args := [d1, d2] }
  | _ => none }
def FnExactHasFactWrongFalsely : Prop := fnExactHasFactRow.holds Try.pinned (OpenSpec.ofChange fnExactHasFactWrong)

/-- 'laws.FnExactFormatFact': WHATEVER THE INPUT: true; the input reads as it did. -/
def fnExactFormatFactSpec : ChangeSpec := { name := "fnExactFormatFact", fn := fun _ => fun
  | [d] => { results := [.lit (.bool true)], args := [d] }
  | _ => none }
def fnExactFormatFactRow : OpenClaim := { program := "ytanmidjjcfkpeaa", sum := "d14e4010a0e77b1c01e5f5cdac78b9f0476cc8391d534681382ab835c8888151", func := "loop.example/g01985/laws.FnExactFormatFact", spec := "fnExactFormatFact", apart := false }
def FnExactFormatFactSaid : Prop := fnExactFormatFactRow.holds Try.pinned (OpenSpec.ofChange fnExactFormatFactSpec)

/-- ITS FALSE NEIGHBOUR: 'it returns false'. Refute it at one input. -/
def fnExactFormatFactWrong : ChangeSpec := { name := "fnExactFormatFact", fn := fun _ => fun
  | [d] => { results := [.lit (.bool false)], args := [d] }
  | _ => none }
def FnExactFormatFactWrongFalsely : Prop := fnExactFormatFactRow.holds Try.pinned (OpenSpec.ofChange fnExactFormatFactWrong)

/- THE SECOND FORM. 'bulk': how many values and letters a reading holds, each counted each time it is reached (what is shared counts as often as it is met; a slice's spare places count too). A statement '..UptoSaid' is the law's where the arguments, and the package variables that the reading takes, are together of bulk at most 1048576: NARROWER than '..Said'. Prove '..Said' where nothing that the law and all that it calls make is longer than what came in: it says more and counts as full. Else prove '..UptoSaid'. A law counts once. -/
mutual
def uptoBulk {H : Type} : DataW H → Nat
  | .lit (.string bytes) => bytes.length + 1
  | .lit _ => 1
  | .nil => 1
  | .ptr d => uptoBulk d + 1
  | .slice elems spare => uptoBulkAll elems + uptoBulkAll spare + 1
  | .agg parts => uptoBulkAll parts + 1
  | .iface _ d => uptoBulk d + 1
  | .map entries => uptoBulkEntries entries + 1
  | .held _ => 1
def uptoBulkAll {H : Type} : List (DataW H) → Nat
  | [] => 0
  | d :: r => uptoBulk d + uptoBulkAll r
def uptoBulkEntries {H : Type} : List (Lit × DataW H) → Nat
  | [] => 0
  | x :: r => uptoBulkEntry x + uptoBulkEntries r
def uptoBulkEntry {H : Type} : Lit × DataW H → Nat
  | (.string bytes, d) => bytes.length + uptoBulk d + 1
  | (_, d) => uptoBulk d + 1
 end
def uptoSmall : (H : Type) → List (DataW H) → Bool := fun _ ds => decide (uptoBulkAll ds ≤ 1048576)
def OpenSpec.upto (s : _root_.Go.ChangeSpec) : _root_.Go.OpenSpec := { _root_.Go.OpenSpec.ofChange s with cond := some uptoSmall }

/-- 'laws.FnExactDecodeVarint', WHERE WHAT IT READS IS OF BULK AT MOST 1048576: true; the input reads as it did. -/
def fnExactDecodeVarintUptoRow : OpenClaim := { program := "ytanmidjjcfkpeaa", sum := "d14e4010a0e77b1c01e5f5cdac78b9f0476cc8391d534681382ab835c8888151", func := "loop.example/g01985/laws.FnExactDecodeVarint", spec := "fnExactDecodeVarint", apart := false, narrowed := true }
def FnExactDecodeVarintUptoSaid : Prop := fnExactDecodeVarintUptoRow.holds Try.pinned (OpenSpec.upto fnExactDecodeVarintSpec)

/-- 'laws.FnExactUnfreeze', WHERE WHAT IT READS IS OF BULK AT MOST 1048576: true; the input reads as it did. -/
def fnExactUnfreezeUptoRow : OpenClaim := { program := "ytanmidjjcfkpeaa", sum := "d14e4010a0e77b1c01e5f5cdac78b9f0476cc8391d534681382ab835c8888151", func := "loop.example/g01985/laws.FnExactUnfreeze", spec := "fnExactUnfreeze", apart := false, narrowed := true }
def FnExactUnfreezeUptoSaid : Prop := fnExactUnfreezeUptoRow.holds Try.pinned (OpenSpec.upto fnExactUnfreezeSpec)

/-- 'laws.FnExactIsSchema', WHERE WHAT IT READS IS OF BULK AT MOST 1048576: true; the input reads as it did. -/
def fnExactIsSchemaUptoRow : OpenClaim := { program := "ytanmidjjcfkpeaa", sum := "d14e4010a0e77b1c01e5f5cdac78b9f0476cc8391d534681382ab835c8888151", func := "loop.example/g01985/laws.FnExactIsSchema", spec := "fnExactIsSchema", apart := false, narrowed := true }
def FnExactIsSchemaUptoSaid : Prop := fnExactIsSchemaUptoRow.holds Try.pinned (OpenSpec.upto fnExactIsSchemaSpec)

/-- 'laws.FnExactComposeMappings', WHERE WHAT IT READS IS OF BULK AT MOST 1048576: true; the input reads as it did. -/
def fnExactComposeMappingsUptoRow : OpenClaim := { program := "ytanmidjjcfkpeaa", sum := "d14e4010a0e77b1c01e5f5cdac78b9f0476cc8391d534681382ab835c8888151", func := "loop.example/g01985/laws.FnExactComposeMappings", spec := "fnExactComposeMappings", apart := false, narrowed := true }
def FnExactComposeMappingsUptoSaid : Prop := fnExactComposeMappingsUptoRow.holds Try.pinned (OpenSpec.upto fnExactComposeMappingsSpec)

/-- 'laws.FnExactEqualAtoms', WHERE WHAT IT READS IS OF BULK AT MOST 1048576: true; the input reads as it did. -/
def fnExactEqualAtomsUptoRow : OpenClaim := { program := "ytanmidjjcfkpeaa", sum := "d14e4010a0e77b1c01e5f5cdac78b9f0476cc8391d534681382ab835c8888151", func := "loop.example/g01985/laws.FnExactEqualAtoms", spec := "fnExactEqualAtoms", apart := false, narrowed := true }
def FnExactEqualAtomsUptoSaid : Prop := fnExactEqualAtomsUptoRow.holds Try.pinned (OpenSpec.upto fnExactEqualAtomsSpec)

/-- 'laws.FnExactFormatTerm', WHERE WHAT IT READS IS OF BULK AT MOST 1048576: true; the input reads as it did. -/
def fnExactFormatTermUptoRow : OpenClaim := { program := "ytanmidjjcfkpeaa", sum := "d14e4010a0e77b1c01e5f5cdac78b9f0476cc8391d534681382ab835c8888151", func := "loop.example/g01985/laws.FnExactFormatTerm", spec := "fnExactFormatTerm", apart := false, narrowed := true }
def FnExactFormatTermUptoSaid : Prop := fnExactFormatTermUptoRow.holds Try.pinned (OpenSpec.upto fnExactFormatTermSpec)

/-- 'laws.FnExactParseInt', WHERE WHAT IT READS IS OF BULK AT MOST 1048576: true; the input reads as it did. -/
def fnExactParseIntUptoRow : OpenClaim := { program := "ytanmidjjcfkpeaa", sum := "d14e4010a0e77b1c01e5f5cdac78b9f0476cc8391d534681382ab835c8888151", func := "loop.example/g01985/laws.FnExactParseInt", spec := "fnExactParseInt", apart := false, narrowed := true }
def FnExactParseIntUptoSaid : Prop := fnExactParseIntUptoRow.holds Try.pinned (OpenSpec.upto fnExactParseIntSpec)

/-- 'laws.FnExactLessAtom', WHERE WHAT IT READS IS OF BULK AT MOST 1048576: true; the input reads as it did. -/
def fnExactLessAtomUptoRow : OpenClaim := { program := "ytanmidjjcfkpeaa", sum := "d14e4010a0e77b1c01e5f5cdac78b9f0476cc8391d534681382ab835c8888151", func := "loop.example/g01985/laws.FnExactLessAtom", spec := "fnExactLessAtom", apart := false, narrowed := true }
def FnExactLessAtomUptoSaid : Prop := fnExactLessAtomUptoRow.holds Try.pinned (OpenSpec.upto fnExactLessAtomSpec)

/-- 'laws.FnExactIsFact', WHERE WHAT IT READS IS OF BULK AT MOST 1048576: true; the input reads as it did. -/
def fnExactIsFactUptoRow : OpenClaim := { program := "ytanmidjjcfkpeaa", sum := "d14e4010a0e77b1c01e5f5cdac78b9f0476cc8391d534681382ab835c8888151", func := "loop.example/g01985/laws.FnExactIsFact", spec := "fnExactIsFact", apart := false, narrowed := true }
def FnExactIsFactUptoSaid : Prop := fnExactIsFactUptoRow.holds Try.pinned (OpenSpec.upto fnExactIsFactSpec)

/-- 'laws.FnExactIsAtom', WHERE WHAT IT READS IS OF BULK AT MOST 1048576: true; the input reads as it did. -/
def fnExactIsAtomUptoRow : OpenClaim := { program := "ytanmidjjcfkpeaa", sum := "d14e4010a0e77b1c01e5f5cdac78b9f0476cc8391d534681382ab835c8888151", func := "loop.example/g01985/laws.FnExactIsAtom", spec := "fnExactIsAtom", apart := false, narrowed := true }
def FnExactIsAtomUptoSaid : Prop := fnExactIsAtomUptoRow.holds Try.pinned (OpenSpec.upto fnExactIsAtomSpec)

/-- 'laws.FnExactHasFact', WHERE WHAT IT READS IS OF BULK AT MOST 1048576: true; the input reads as it did. -/
def fnExactHasFactUptoRow : OpenClaim := { program := "ytanmidjjcfkpeaa", sum := "d14e4010a0e77b1c01e5f5cdac78b9f0476cc8391d534681382ab835c8888151", func := "loop.example/g01985/laws.FnExactHasFact", spec := "fnExactHasFact", apart := false, narrowed := true }
def FnExactHasFactUptoSaid : Prop := fnExactHasFactUptoRow.holds Try.pinned (OpenSpec.upto fnExactHasFactSpec)

/-- 'laws.FnExactFormatFact', WHERE WHAT IT READS IS OF BULK AT MOST 1048576: true; the input reads as it did. -/
def fnExactFormatFactUptoRow : OpenClaim := { program := "ytanmidjjcfkpeaa", sum := "d14e4010a0e77b1c01e5f5cdac78b9f0476cc8391d534681382ab835c8888151", func := "loop.example/g01985/laws.FnExactFormatFact", spec := "fnExactFormatFact", apart := false, narrowed := true }
def FnExactFormatFactUptoSaid : Prop := fnExactFormatFactUptoRow.holds Try.pinned (OpenSpec.upto fnExactFormatFactSpec)

end Rows
end Go.Proofs.Ytanmidjjcfkpeaa
