-- Written for this claim by a program of this session (wip/xprint.py), by means of the kit's print. Not trusted: Lean checks it.
import Derived.Test.YtkkmceejfmjidaaGx17
namespace Go.Proofs.Ytkkmceejfmjidaa.G
open Go.RowKit Go.Proofs.Ytkkmceejfmjidaa.G Go.Proofs.YtkkmceejfmjidaaW.PrintWords Go.Proofs.YtkkmceejfmjidaaW.PrintLast
def hawserlaw21_MasterReads.Pure : Prop := ∀ (a0 : List Int), (∀ y0 ∈ a0, (Lit.int .u8 y0).wf = true) → ((a0.map (fun _ => 1)).sum + 1) ≤ 1048576 → ∃ k, hawserlaw21_MasterReads.f k a0 = some true
end Go.Proofs.Ytkkmceejfmjidaa.G
