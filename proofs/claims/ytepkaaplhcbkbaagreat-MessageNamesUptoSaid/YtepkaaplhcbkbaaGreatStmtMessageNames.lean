-- Written for this claim by a program of this session (wip/xprint.py), by means of the kit's print. Not trusted: Lean checks it.
import Derived.Test.YtepkaaplhcbkbaaGreatLx3
namespace Go.Proofs.YtepkaaplhcbkbaaGreat.L
open Go.RowKit Go.Proofs.YtepkaaplhcbkbaaGreat.L Go.Proofs.YtepkaaplhcbkbaaGreatW.PrintWords Go.Proofs.YtepkaaplhcbkbaaGreatW.PrintLast
def hawserlaw15_MessageNames.Pure : Prop := ∃ k, hawserlaw15_MessageNames.f k = some true
end Go.Proofs.YtepkaaplhcbkbaaGreat.L
