-- Written for this claim by a program of this session (wip/xprint.py), by means of the kit's print. Not trusted: Lean checks it.
import Derived.Test.YtcpdnoaebbbgcaaGx4
namespace Go.Proofs.Ytcpdnoaebbbgcaa.G
open Go.RowKit Go.Proofs.Ytcpdnoaebbbgcaa.G Go.Proofs.YtcpdnoaebbbgcaaW.PrintWords Go.Proofs.YtcpdnoaebbbgcaaW.PrintLast
def hawserlaw01_LebPrefix.Pure : Prop := ∀ (a0 : S30), (((Lit.int .u64 a0.f0).wf = true) ∧ (((Lit.int .u64 a0.f1).wf = true) ∧ ((∀ y0 ∈ a0.f2, (Lit.int .u64 y0).wf = true) ∧ (∀ y0 ∈ a0.f3, (Lit.int .u64 y0).wf = true)))) → (1 + (1 + (((a0.f2.map (fun _ => 1)).sum + 1) + (((a0.f3.map (fun _ => 1)).sum + 1)))) + 1) ≤ 1048576 → ∃ k, hawserlaw01_LebPrefix.f k a0.f0 a0.f1 a0.f2 a0.f3 = some true
end Go.Proofs.Ytcpdnoaebbbgcaa.G
