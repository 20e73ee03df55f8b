-- Written for this claim by a program of this session (wip/xprint.py), by means of the kit's print. Not trusted: Lean checks it.
import Derived.Test.YtjhijklgpgdlaaaGx10
namespace Go.Proofs.Ytjhijklgpgdlaaa.G
open Go.RowKit Go.Proofs.Ytjhijklgpgdlaaa.G Go.Proofs.YtjhijklgpgdlaaaW.PrintWords Go.Proofs.YtjhijklgpgdlaaaW.PrintLast
def hawserlaw16_ConfigFollows.Pure : Prop := ∀ (a0 : S32) (a1 : S32), (((Lit.int .i64 a0.f0).wf = true) ∧ (∀ y0 ∈ a0.f1, (Lit.int .i64 y0).wf = true)) → (((Lit.int .i64 a1.f0).wf = true) ∧ (∀ y0 ∈ a1.f1, (Lit.int .i64 y0).wf = true)) → (1 + (((a0.f1.map (fun _ => 1)).sum + 1)) + 1) + (1 + (((a1.f1.map (fun _ => 1)).sum + 1)) + 1) ≤ 1048576 → ∃ k, hawserlaw16_ConfigFollows.f k a0.f0 a0.f1 a1.f0 a1.f1 = some true
end Go.Proofs.Ytjhijklgpgdlaaa.G
