-- Written for this claim by a program of this session (wip/xprint.py), by means of the kit's print. Not trusted: Lean checks it.
import Derived.Test.YtepkaaplhcbkbaaGreatJx1
namespace Go.Proofs.YtepkaaplhcbkbaaGreat.J
open Go.RowKit Go.Proofs.YtepkaaplhcbkbaaGreat.J Go.Proofs.YtepkaaplhcbkbaaGreatW.PrintWords Go.Proofs.YtepkaaplhcbkbaaGreatW.PrintLast
def hawserlaw23_ClientNews.Pure : Prop := ∀ (a0 : Int) (a1 : S41), ((Lit.int .i64 a0).wf = true) → (((Lit.int .i64 a1.f0).wf = true) ∧ (∀ y0 ∈ a1.f1, (Lit.int .i64 y0).wf = true)) → 1 + (1 + (((a1.f1.map (fun _ => 1)).sum + 1)) + 1) ≤ 1048576 → ∃ k, hawserlaw23_ClientNews.f k a0 a1.f0 a1.f1 = some true
end Go.Proofs.YtepkaaplhcbkbaaGreat.J
