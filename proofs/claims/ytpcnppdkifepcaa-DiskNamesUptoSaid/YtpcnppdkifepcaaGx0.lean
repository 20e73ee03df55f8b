-- Written for this claim by a program of this session (wip/xprint.py), by means of the kit's print. Not trusted: Lean checks it.
import Derived.Test.YtpcnppdkifepcaaProg
import Derived.Test.YtpcnppdkifepcaaBlocks
import Derived.Laws.CopyOwn
import Derived.Below
import Derived.Deep.Draws
import Derived.Deep.AppendLies
import Derived.Maps.AppendAt
import Derived.OwnWalk
import Derived.Laws.BytesArg
import Derived.Laws.MakeOwn
import Derived.Laws.OwnMore
import Derived.Deep.OwnRows
import Derived.Tactics
import Derived.Lib.ConvBytes
import Derived.Laws.Slices
import Derived.WalkKit
import Derived.KernelRfl
import Derived.RowKit3
import Derived.Deep.LoopGhost
import Derived.Deep.QuietTactic
import Derived.BigQuiet
import Derived.WideLaws
import Derived.Deep.DeepCutAuto
import Derived.Deep.CutBlock
import Derived.Deep.RegionHeld3
import Derived.Laws.Rows
import Derived.Lib.AppendStr
import Derived.ArgAppend
import Derived.Laws.IdiomCopy
import Derived.OrdersHeld
import Derived.Laws.BitsLemmas
import Derived.RowKit
import Derived.Maps.OwnOps
import Derived.WideMake
import Derived.Laws.IdiomRangeMap
import Derived.Deep.RegionLaw
import Derived.Test.YtpcnppdkifepcaaWWords
import Derived.Test.YtpcnppdkifepcaaWLast
import Derived.Test.YtpcnppdkifepcaaWTab
import Derived.Test.YtpcnppdkifepcaaWFour
import Derived.Test.YtpcnppdkifepcaaWQPut
import Derived.Test.YtpcnppdkifepcaaWApart
import Derived.Test.YtpcnppdkifepcaaWArr
import Derived.Test.YtpcnppdkifepcaaWZeros
import Derived.Test.YtpcnppdkifepcaaWFoot
import Derived.Test.YtpcnppdkifepcaaWKept
import Derived.Test.YtpcnppdkifepcaaWShare
import Derived.Test.YtpcnppdkifepcaaWN
import Derived.Test.YtpcnppdkifepcaaWFootNe
import Derived.Test.YtpcnppdkifepcaaWAt
import Derived.Test.YtpcnppdkifepcaaWEqStruct
import Derived.Test.YtpcnppdkifepcaaWRepsOne
import Derived.Test.YtpcnppdkifepcaaWInv
import Derived.Test.YtpcnppdkifepcaaWInvWords
import Derived.Test.YtpcnppdkifepcaaWGuard
import Derived.Test.YtpcnppdkifepcaaWNEv
import Derived.Test.YtpcnppdkifepcaaWMore
namespace Go.Proofs.Ytpcnppdkifepcaa.G
open Go.RowKit Go.Proofs.YtpcnppdkifepcaaW.PrintWords Go.Proofs.YtpcnppdkifepcaaW.PrintLast Go.Proofs.YtpcnppdkifepcaaW.PrintMore
attribute [local go_sem] max2_int min2_int max_two min_two max_three min_three max_four min_four   -- for this text's walks alone
set_option linter.unusedVariables false
set_option linter.unusedSimpArgs false



def errW : Option Int → Value
  | none => .nilIface
  | some c => .iface 0 (.int .i64 c)
theorem errW_none : errW none = .nilIface := rfl
theorem errW_some (c : Int) : errW (some c) = .iface 0 (.int .i64 c) := rfl

-- the values' own types

end Go.Proofs.Ytpcnppdkifepcaa.G
