-- Written for this claim by a program of this session (wip/xprint.py), by means of the kit's print. Not trusted: Lean checks it.
import Derived.Test.YtidijiijciokpaaRx1
namespace Go.Proofs.Ytidijiijciokpaa.R
open Go.RowKit Go.Proofs.Ytidijiijciokpaa.R Go.Proofs.YtidijiijciokpaaW.PrintWords Go.Proofs.YtidijiijciokpaaW.PrintLast
def hawserlaw12_DiskTwin.Pure : Prop := ∀ (a0 : List (S47)) (a1 : List (S47)), (∀ y0 ∈ a0, (((Lit.int .i64 y0.f0.f0).wf = true) ∧ ((True) ∧ ((True) ∧ ((True) ∧ ((Lit.int .i64 y0.f0.f4).wf = true))))) ∧ (((Lit.int .i64 y0.f1).wf = true) ∧ ((Lit.int .i64 y0.f2).wf = true))) → (∀ y0 ∈ a1, (((Lit.int .i64 y0.f0.f0).wf = true) ∧ ((True) ∧ ((True) ∧ ((True) ∧ ((Lit.int .i64 y0.f0.f4).wf = true))))) ∧ (((Lit.int .i64 y0.f1).wf = true) ∧ ((Lit.int .i64 y0.f2).wf = true))) → ((a0.map (fun x => ((1 + ((x.f0.f1.size + 1) + ((x.f0.f2.size + 1) + ((x.f0.f3.size + 1) + (1)))) + 1) + (1 + (1)) + 1))).sum + 1) + ((a1.map (fun x => ((1 + ((x.f0.f1.size + 1) + ((x.f0.f2.size + 1) + ((x.f0.f3.size + 1) + (1)))) + 1) + (1 + (1)) + 1))).sum + 1) ≤ 1048576 → hawserlaw12_DiskTwin.f a0 a1 = some true
end Go.Proofs.Ytidijiijciokpaa.R
