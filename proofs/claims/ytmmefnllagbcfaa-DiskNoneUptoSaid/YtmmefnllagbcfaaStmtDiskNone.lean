-- Written for this claim by a program of this session (wip/xprint.py), by means of the kit's print. Not trusted: Lean checks it.
import Derived.Test.YtmmefnllagbcfaaGx9
namespace Go.Proofs.Ytmmefnllagbcfaa.G
open Go.RowKit Go.Proofs.Ytmmefnllagbcfaa.G Go.Proofs.YtmmefnllagbcfaaW.PrintWords Go.Proofs.YtmmefnllagbcfaaW.PrintLast
def hawserlaw12_DiskNone.Pure : Prop := ∀ (a0 : S25), ((((Lit.int .i64 a0.f0.f0).wf = true) ∧ ((True) ∧ ((True) ∧ ((True) ∧ ((Lit.int .i64 a0.f0.f4).wf = true))))) ∧ (((Lit.int .i64 a0.f1).wf = true) ∧ ((Lit.int .i64 a0.f2).wf = true))) → ((1 + ((a0.f0.f1.size + 1) + ((a0.f0.f2.size + 1) + ((a0.f0.f3.size + 1) + (1)))) + 1) + (1 + (1)) + 1) ≤ 1048576 → hawserlaw12_DiskNone.f a0.f0.f0 a0.f0.f1 a0.f0.f2 a0.f0.f3 a0.f0.f4 a0.f1 a0.f2 = some true
end Go.Proofs.Ytmmefnllagbcfaa.G
