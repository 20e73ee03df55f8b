-- Written for this claim by a program of this session (wip/xprint.py), by means of the kit's print. Not trusted: Lean checks it.
import Derived.Test.YtcpdnoaebbbgcaaGx4
namespace Go.Proofs.Ytcpdnoaebbbgcaa.G
open Go.RowKit Go.Proofs.Ytcpdnoaebbbgcaa.G Go.Proofs.YtcpdnoaebbbgcaaW.PrintWords Go.Proofs.YtcpdnoaebbbgcaaW.PrintLast
def hawserlaw01_LebEncodes.Pure : Prop := ∀ (a0 : List Int) (a1 : List Int), (∀ y0 ∈ a0, (Lit.int .u64 y0).wf = true) → (∀ y0 ∈ a1, (Lit.int .u64 y0).wf = true) → ((a0.map (fun _ => 1)).sum + 1) + ((a1.map (fun _ => 1)).sum + 1) ≤ 1048576 → ∃ k, hawserlaw01_LebEncodes.f k a0 a1 = some true
end Go.Proofs.Ytcpdnoaebbbgcaa.G
