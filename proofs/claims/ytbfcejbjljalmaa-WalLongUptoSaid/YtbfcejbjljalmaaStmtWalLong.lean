-- Written for this claim by a program of this session (wip/xprint.py), by means of the kit's print. Not trusted: Lean checks it.
import Derived.Test.YtbfcejbjljalmaaQx1
namespace Go.Proofs.Ytbfcejbjljalmaa.Q
open Go.RowKit Go.Proofs.Ytbfcejbjljalmaa.Q Go.Proofs.YtbfcejbjljalmaaW.PrintWords Go.Proofs.YtbfcejbjljalmaaW.PrintLast
def hawserlaw13_WalLong.Pure : Prop := ∀ (a0 : Int) (a1 : Int), ((Lit.int .i64 a0).wf = true) → ((Lit.int .u8 a1).wf = true) → 1 + 1 ≤ 1048576 → hawserlaw13_WalLong.f a0 a1 = some true
end Go.Proofs.Ytbfcejbjljalmaa.Q
