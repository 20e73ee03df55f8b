-- Written for this claim by a program of this session (wip/xprint.py), by means of the kit's print. Not trusted: Lean checks it.
import Derived.Test.YtkkmceejfmjidaaGx13
namespace Go.Proofs.Ytkkmceejfmjidaa.G
open Go.RowKit Go.Proofs.Ytkkmceejfmjidaa.G Go.Proofs.YtkkmceejfmjidaaW.PrintWords Go.Proofs.YtkkmceejfmjidaaW.PrintLast
def hawserlaw21_MasterStates.Pure : Prop := ∀ (a0 : S27), ((((Lit.int .i64 a0.f0.f0).wf = true) ∧ (∀ y0 ∈ a0.f0.f1, (Lit.int .i64 y0).wf = true)) ∧ (((Lit.int .i64 a0.f1).wf = true) ∧ (((Lit.int .i64 a0.f2).wf = true) ∧ (((Lit.int .i64 a0.f3).wf = true) ∧ ((Lit.int .i64 a0.f4).wf = true))))) → ((1 + (((a0.f0.f1.map (fun _ => 1)).sum + 1)) + 1) + (1 + (1 + (1 + (1)))) + 1) ≤ 1048576 → ∃ k, hawserlaw21_MasterStates.f k a0.f0.f0 a0.f0.f1 a0.f1 a0.f2 a0.f3 a0.f4 = some true
end Go.Proofs.Ytkkmceejfmjidaa.G
