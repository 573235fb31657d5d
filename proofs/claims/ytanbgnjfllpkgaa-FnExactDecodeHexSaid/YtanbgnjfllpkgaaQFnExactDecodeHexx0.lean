/- Walks through the Go functions that FnExactDecodeHex reaches: each call returns what the Lean function beside it says, within the bounds that the theorem names. -/
import Derived.Test.YtanbgnjfllpkgaaProg
import Derived.Below
import Derived.Deep.Draws
import Derived.Deep.AppendLies
import Derived.Maps.AppendAt
import Derived.OwnWalk
import Derived.Laws.BytesArg
import Derived.Laws.MakeOwn
import Derived.Laws.OwnMore
import Derived.Deep.OwnRows
import Derived.Tactics
import Derived.Lib.ConvBytes
import Derived.Laws.Slices
import Derived.WalkKit
import Derived.KernelRfl
import Derived.RowKit3
import Derived.Deep.LoopGhost
import Derived.Deep.QuietTactic
import Derived.BigQuiet
import Derived.WideLaws
import Derived.Deep.DeepCutAuto
import Derived.Deep.CutBlock
import Derived.Deep.RegionHeld3
import Derived.Laws.Rows
import Derived.Lib.AppendStr
import Derived.ArgAppend
import Derived.Laws.IdiomCopy
import Derived.OrdersHeld
import Derived.Laws.BitsLemmas
import Derived.RowKit
import Derived.Test.YtanbgnjfllpkgaaWWords
import Derived.Test.YtanbgnjfllpkgaaMake
import Derived.Test.YtanbgnjfllpkgaaWLast
import Derived.Test.YtanbgnjfllpkgaaWTab
import Derived.Test.YtanbgnjfllpkgaaWFour
import Derived.Test.YtanbgnjfllpkgaaWQPut
import Derived.Test.YtanbgnjfllpkgaaWApart
import Derived.Test.YtanbgnjfllpkgaaWArr
import Derived.Test.YtanbgnjfllpkgaaWZeros
import Derived.Test.YtanbgnjfllpkgaaWFoot
import Derived.Test.YtanbgnjfllpkgaaWKept
import Derived.Test.YtanbgnjfllpkgaaWShare
import Derived.Test.YtanbgnjfllpkgaaWN
import Derived.Test.YtanbgnjfllpkgaaWFootNe
import Derived.Test.YtanbgnjfllpkgaaWAt
import Derived.Test.YtanbgnjfllpkgaaWEqStruct
import Derived.Test.YtanbgnjfllpkgaaWRepsOne
import Derived.Test.YtanbgnjfllpkgaaWInv
import Derived.Test.YtanbgnjfllpkgaaWInvWords
import Derived.Test.YtanbgnjfllpkgaaWGuard
import Derived.Test.YtanbgnjfllpkgaaWNEv
import Derived.Test.YtanbgnjfllpkgaaWMore
namespace Go.Proofs.Ytanbgnjfllpkgaa.QFnExactDecodeHex
open Go.RowKit Go.Proofs.YtanbgnjfllpkgaaW.PrintWords Go.Proofs.YtanbgnjfllpkgaaW.PrintLast Go.Proofs.YtanbgnjfllpkgaaW.PrintMore
attribute [local go_sem] max2_int min2_int max_two min_two max_three min_three max_four min_four   -- for this text's walks alone
set_option linter.unusedVariables false
set_option linter.unusedSimpArgs false



def errW : Option Int → Value
  | none => .nilIface
  | some c => .iface 0 (.int .i64 c)
theorem errW_none : errW none = .nilIface := rfl
theorem errW_some (c : Int) : errW (some c) = .iface 0 (.int .i64 c) := rfl

theorem info5 : (Try.prog.info? 5).map (fun i => (i.zero, i.size, i.bytes)) = some (some (.int .u8 0), 1, 1) := by kernel_rfl
-- the values' own types

end Go.Proofs.Ytanbgnjfllpkgaa.QFnExactDecodeHex
