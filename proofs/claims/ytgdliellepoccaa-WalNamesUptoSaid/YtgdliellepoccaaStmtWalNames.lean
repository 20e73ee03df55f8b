-- Written for this claim by a program of this session (wip/xprint.py), by means of the kit's print. Not trusted: Lean checks it.
import Derived.Test.YtgdliellepoccaaQx1
namespace Go.Proofs.Ytgdliellepoccaa.Q
open Go.RowKit Go.Proofs.Ytgdliellepoccaa.Q Go.Proofs.YtgdliellepoccaaW.PrintWords Go.Proofs.YtgdliellepoccaaW.PrintLast
def hawserlaw13_WalNames.Pure : Prop := hawserlaw13_WalNames.f = some true
end Go.Proofs.Ytgdliellepoccaa.Q
