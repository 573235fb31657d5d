/- Walks through the Go functions that FnExactApplyMapping reaches: each call returns what the Lean function beside it says, within the bounds that the theorem names. -/
import Derived.Test.YtoijocdconcfoaaProg
import Derived.Below
import Derived.Deep.Draws
import Derived.Deep.AppendLies
import Derived.Maps.AppendAt
import Derived.OwnWalk
import Derived.Laws.BytesArg
import Derived.Laws.MakeOwn
import Derived.Laws.OwnMore
import Derived.Deep.OwnRows
import Derived.Tactics
import Derived.Lib.ConvBytes
import Derived.Laws.Slices
import Derived.WalkKit
import Derived.KernelRfl
import Derived.RowKit3
import Derived.Deep.LoopGhost
import Derived.Deep.QuietTactic
import Derived.BigQuiet
import Derived.WideLaws
import Derived.Deep.DeepCutAuto
import Derived.Deep.CutBlock
import Derived.Deep.RegionHeld3
import Derived.Laws.Rows
import Derived.Lib.AppendStr
import Derived.ArgAppend
import Derived.Laws.IdiomCopy
import Derived.OrdersHeld
import Derived.Laws.BitsLemmas
import Derived.RowKit
import Derived.Test.YtoijocdconcfoaaWWords
import Derived.Test.YtoijocdconcfoaaWLast
import Derived.Test.YtoijocdconcfoaaWTab
import Derived.Test.YtoijocdconcfoaaWFour
import Derived.Test.YtoijocdconcfoaaWQPut
import Derived.Test.YtoijocdconcfoaaWApart
import Derived.Test.YtoijocdconcfoaaWArr
import Derived.Test.YtoijocdconcfoaaWZeros
import Derived.Test.YtoijocdconcfoaaWFoot
import Derived.Test.YtoijocdconcfoaaWKept
import Derived.Test.YtoijocdconcfoaaWShare
import Derived.Test.YtoijocdconcfoaaWN
import Derived.Test.YtoijocdconcfoaaWFootNe
import Derived.Test.YtoijocdconcfoaaWAt
import Derived.Test.YtoijocdconcfoaaWEqStruct
import Derived.Test.YtoijocdconcfoaaWRepsOne
import Derived.Test.YtoijocdconcfoaaWInv
import Derived.Test.YtoijocdconcfoaaWInvWords
import Derived.Test.YtoijocdconcfoaaWGuard
import Derived.Test.YtoijocdconcfoaaWNEv
import Derived.Test.YtoijocdconcfoaaWMore
namespace Go.Proofs.Ytoijocdconcfoaa.QFnExactApplyMapping
open Go.RowKit Go.Proofs.YtoijocdconcfoaaW.PrintWords Go.Proofs.YtoijocdconcfoaaW.PrintLast Go.Proofs.YtoijocdconcfoaaW.PrintMore
attribute [local go_sem] max2_int min2_int max_two min_two max_three min_three max_four min_four   -- for this text's walks alone
set_option linter.unusedVariables false
set_option linter.unusedSimpArgs false



def errW : Option Int → Value
  | none => .nilIface
  | some c => .iface 0 (.int .i64 c)
theorem errW_none : errW none = .nilIface := rfl
theorem errW_some (c : Int) : errW (some c) = .iface 0 (.int .i64 c) := rfl

theorem info3 : (Try.prog.info? 3).map (fun i => (i.zero, i.size, i.bytes)) = some (some (.int .i64 0), 1, 8) := by kernel_rfl
-- the values' own types

end Go.Proofs.Ytoijocdconcfoaa.QFnExactApplyMapping
