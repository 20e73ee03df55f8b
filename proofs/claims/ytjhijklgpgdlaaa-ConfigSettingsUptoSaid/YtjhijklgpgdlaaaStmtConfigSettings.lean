-- Written for this claim by a program of this session (wip/xprint.py), by means of the kit's print. Not trusted: Lean checks it.
import Derived.Test.YtjhijklgpgdlaaaGx1
namespace Go.Proofs.Ytjhijklgpgdlaaa.G
open Go.RowKit Go.Proofs.Ytjhijklgpgdlaaa.G Go.Proofs.YtjhijklgpgdlaaaW.PrintWords Go.Proofs.YtjhijklgpgdlaaaW.PrintLast
def hawserlaw16_ConfigSettings.Pure : Prop := ∀ (a0 : S23), (((Lit.int .i64 a0.f0).wf = true) ∧ (((Lit.int .i64 a0.f1).wf = true) ∧ (((Lit.int .i64 a0.f2).wf = true) ∧ (((Lit.int .i64 a0.f3).wf = true) ∧ ((Lit.int .i64 a0.f4).wf = true))))) → (1 + (1 + (1 + (1 + (1)))) + 1) ≤ 1048576 → hawserlaw16_ConfigSettings.f a0.f0 a0.f1 a0.f2 a0.f3 a0.f4 = some true
end Go.Proofs.Ytjhijklgpgdlaaa.G
