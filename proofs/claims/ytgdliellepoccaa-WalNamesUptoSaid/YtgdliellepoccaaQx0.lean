-- Written for this claim by a program of this session (wip/xprint.py), by means of the kit's print. Not trusted: Lean checks it.
import Derived.Test.YtgdliellepoccaaProg
import Derived.Test.YtgdliellepoccaaBlocks
import Derived.Laws.CopyOwn
import Derived.Below
import Derived.Deep.Draws
import Derived.Deep.AppendLies
import Derived.Maps.AppendAt
import Derived.OwnWalk
import Derived.Laws.BytesArg
import Derived.Laws.MakeOwn
import Derived.Laws.OwnMore
import Derived.Deep.OwnRows
import Derived.Tactics
import Derived.Lib.ConvBytes
import Derived.Laws.Slices
import Derived.WalkKit
import Derived.KernelRfl
import Derived.RowKit3
import Derived.Deep.LoopGhost
import Derived.Deep.QuietTactic
import Derived.BigQuiet
import Derived.WideLaws
import Derived.Deep.DeepCutAuto
import Derived.Deep.CutBlock
import Derived.Deep.RegionHeld3
import Derived.Laws.Rows
import Derived.Lib.AppendStr
import Derived.ArgAppend
import Derived.Laws.IdiomCopy
import Derived.OrdersHeld
import Derived.Laws.BitsLemmas
import Derived.RowKit
import Derived.Test.YtgdliellepoccaaF19
import Derived.Test.YtgdliellepoccaaWWords
import Derived.Test.YtgdliellepoccaaWLast
import Derived.Test.YtgdliellepoccaaWTab
import Derived.Test.YtgdliellepoccaaWFour
import Derived.Test.YtgdliellepoccaaWQPut
import Derived.Test.YtgdliellepoccaaWApart
import Derived.Test.YtgdliellepoccaaWArr
import Derived.Test.YtgdliellepoccaaWZeros
import Derived.Test.YtgdliellepoccaaWFoot
import Derived.Test.YtgdliellepoccaaWKept
import Derived.Test.YtgdliellepoccaaWShare
import Derived.Test.YtgdliellepoccaaWN
import Derived.Test.YtgdliellepoccaaWFootNe
import Derived.Test.YtgdliellepoccaaWAt
import Derived.Test.YtgdliellepoccaaWEqStruct
import Derived.Test.YtgdliellepoccaaWRepsOne
import Derived.Test.YtgdliellepoccaaWInv
import Derived.Test.YtgdliellepoccaaWInvWords
import Derived.Test.YtgdliellepoccaaWGuard
import Derived.Test.YtgdliellepoccaaWNEv
import Derived.Test.YtgdliellepoccaaWMore
namespace Go.Proofs.Ytgdliellepoccaa.Q
open Go.RowKit Go.Proofs.YtgdliellepoccaaW.PrintWords Go.Proofs.YtgdliellepoccaaW.PrintLast Go.Proofs.YtgdliellepoccaaW.PrintMore
attribute [local go_sem] max2_int min2_int max_two min_two max_three min_three max_four min_four   -- for this text's walks alone
set_option linter.unusedVariables false
set_option linter.unusedSimpArgs false



def errW : Option Int → Value
  | none => .nilIface
  | some c => .iface 0 (.int .i64 c)
theorem errW_none : errW none = .nilIface := rfl
theorem errW_some (c : Int) : errW (some c) = .iface 0 (.int .i64 c) := rfl

-- the values' own types

end Go.Proofs.Ytgdliellepoccaa.Q
