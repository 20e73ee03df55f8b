-- Written for this claim by a program of this session (wip/xprint.py), by means of the kit's print. Not trusted: Lean checks it.
import Derived.Test.YtidijiijciokpaaTx1
namespace Go.Proofs.Ytidijiijciokpaa.T
open Go.RowKit Go.Proofs.Ytidijiijciokpaa.T Go.Proofs.YtidijiijciokpaaW.PrintWords Go.Proofs.YtidijiijciokpaaW.PrintLast
def hawserlaw12_DiskSteps.Pure : Prop := ∀ (a0 : List (S47)), (∀ y0 ∈ a0, (((Lit.int .i64 y0.f0.f0).wf = true) ∧ ((True) ∧ ((True) ∧ ((True) ∧ ((Lit.int .i64 y0.f0.f4).wf = true))))) ∧ (((Lit.int .i64 y0.f1).wf = true) ∧ ((Lit.int .i64 y0.f2).wf = true))) → ((a0.map (fun x => ((1 + ((x.f0.f1.size + 1) + ((x.f0.f2.size + 1) + ((x.f0.f3.size + 1) + (1)))) + 1) + (1 + (1)) + 1))).sum + 1) ≤ 1048576 → hawserlaw12_DiskSteps.f a0 = some true
end Go.Proofs.Ytidijiijciokpaa.T
