-- Written for this claim by a program of this session (wip/xprint.py), by means of the kit's print. Not trusted: Lean checks it.
import Derived.Test.YtepkaaplhcbkbaaGreatKx1
namespace Go.Proofs.YtepkaaplhcbkbaaGreat.K
open Go.RowKit Go.Proofs.YtepkaaplhcbkbaaGreat.K Go.Proofs.YtepkaaplhcbkbaaGreatW.PrintWords Go.Proofs.YtepkaaplhcbkbaaGreatW.PrintLast
def hawserlaw23_ClientStale.Pure : Prop := ∀ (a0 : Int) (a1 : S41) (a2 : Int), ((Lit.int .i64 a0).wf = true) → (((Lit.int .i64 a1.f0).wf = true) ∧ (∀ y0 ∈ a1.f1, (Lit.int .i64 y0).wf = true)) → ((Lit.int .i64 a2).wf = true) → 1 + (1 + (((a1.f1.map (fun _ => 1)).sum + 1)) + 1) + 1 ≤ 1048576 → ∃ k, hawserlaw23_ClientStale.f k a0 a1.f0 a1.f1 a2 = some true
end Go.Proofs.YtepkaaplhcbkbaaGreat.K
