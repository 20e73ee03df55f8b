-- Written for this claim by a program of this session (wip/xprint.py), by means of the kit's print. Not trusted: Lean checks it.
import Derived.Test.YtjhijklgpgdlaaaGx8
namespace Go.Proofs.Ytjhijklgpgdlaaa.G
open Go.RowKit Go.Proofs.Ytjhijklgpgdlaaa.G Go.Proofs.YtjhijklgpgdlaaaW.PrintWords Go.Proofs.YtjhijklgpgdlaaaW.PrintLast
def hawserlaw16_ConfigChange.Pure : Prop := ∀ (a0 : List Int) (a1 : List Int), (∀ y0 ∈ a0, (Lit.int .i64 y0).wf = true) → (∀ y0 ∈ a1, (Lit.int .i64 y0).wf = true) → ((a0.map (fun _ => 1)).sum + 1) + ((a1.map (fun _ => 1)).sum + 1) ≤ 1048576 → ∃ k, hawserlaw16_ConfigChange.f k a0 a1 = some true
end Go.Proofs.Ytjhijklgpgdlaaa.G
