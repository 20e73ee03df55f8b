-- Written for this claim by a program of this session (wip/xprint.py), by means of the kit's print. Not trusted: Lean checks it.
import Derived.Test.YtjhijklgpgdlaaaGx10
namespace Go.Proofs.Ytjhijklgpgdlaaa.G
open Go.RowKit Go.Proofs.Ytjhijklgpgdlaaa.G Go.Proofs.YtjhijklgpgdlaaaW.PrintWords Go.Proofs.YtjhijklgpgdlaaaW.PrintLast
def hawserlaw16_ConfigOwn.Pure : Prop := ∀ (a0 : List Int), (∀ y0 ∈ a0, (Lit.int .i64 y0).wf = true) → ((a0.map (fun _ => 1)).sum + 1) ≤ 1048576 → ∃ k, hawserlaw16_ConfigOwn.f k a0 = some true
end Go.Proofs.Ytjhijklgpgdlaaa.G
