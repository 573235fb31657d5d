/- Walks through the Go functions that FnExactDecodeVarint reaches: each call returns what the Lean function beside it says, within the bounds that the theorem names. -/
import Derived.Test.YtanmidjjcfkpeaaProg
import Derived.Below
import Derived.Deep.Draws
import Derived.Deep.AppendLies
import Derived.Maps.AppendAt
import Derived.OwnWalk
import Derived.Laws.BytesArg
import Derived.Laws.MakeOwn
import Derived.Laws.OwnMore
import Derived.Deep.OwnRows
import Derived.Tactics
import Derived.Lib.ConvBytes
import Derived.Laws.Slices
import Derived.WalkKit
import Derived.KernelRfl
import Derived.RowKit3
import Derived.Deep.LoopGhost
import Derived.Deep.QuietTactic
import Derived.BigQuiet
import Derived.WideLaws
import Derived.Deep.DeepCutAuto
import Derived.Deep.CutBlock
import Derived.Deep.RegionHeld3
import Derived.Laws.Rows
import Derived.Lib.AppendStr
import Derived.ArgAppend
import Derived.Laws.IdiomCopy
import Derived.OrdersHeld
import Derived.Laws.BitsLemmas
import Derived.RowKit
import Derived.Test.YtanmidjjcfkpeaaWWords
import Derived.Test.YtanmidjjcfkpeaaWLast
import Derived.Test.YtanmidjjcfkpeaaWTab
import Derived.Test.YtanmidjjcfkpeaaWFour
import Derived.Test.YtanmidjjcfkpeaaWQPut
import Derived.Test.YtanmidjjcfkpeaaWApart
import Derived.Test.YtanmidjjcfkpeaaWArr
import Derived.Test.YtanmidjjcfkpeaaWZeros
import Derived.Test.YtanmidjjcfkpeaaWFoot
import Derived.Test.YtanmidjjcfkpeaaWKept
import Derived.Test.YtanmidjjcfkpeaaWShare
import Derived.Test.YtanmidjjcfkpeaaWN
import Derived.Test.YtanmidjjcfkpeaaWFootNe
import Derived.Test.YtanmidjjcfkpeaaWAt
import Derived.Test.YtanmidjjcfkpeaaWEqStruct
import Derived.Test.YtanmidjjcfkpeaaWRepsOne
import Derived.Test.YtanmidjjcfkpeaaWInv
import Derived.Test.YtanmidjjcfkpeaaWInvWords
import Derived.Test.YtanmidjjcfkpeaaWGuard
import Derived.Test.YtanmidjjcfkpeaaWNEv
import Derived.Test.YtanmidjjcfkpeaaWMore
namespace Go.Proofs.Ytanmidjjcfkpeaa.QFnExactDecodeVarint
open Go.RowKit Go.Proofs.YtanmidjjcfkpeaaW.PrintWords Go.Proofs.YtanmidjjcfkpeaaW.PrintLast Go.Proofs.YtanmidjjcfkpeaaW.PrintMore
attribute [local go_sem] max2_int min2_int max_two min_two max_three min_three max_four min_four   -- for this text's walks alone
set_option linter.unusedVariables false
set_option linter.unusedSimpArgs false



def errW : Option Int → Value
  | none => .nilIface
  | some c => .iface 0 (.int .i64 c)
theorem errW_none : errW none = .nilIface := rfl
theorem errW_some (c : Int) : errW (some c) = .iface 0 (.int .i64 c) := rfl

theorem info5 : (Try.prog.info? 5).map (fun i => (i.zero, i.size, i.bytes)) = some (some (.int .u8 0), 1, 1) := by kernel_rfl
-- the values' own types

end Go.Proofs.Ytanmidjjcfkpeaa.QFnExactDecodeVarint
