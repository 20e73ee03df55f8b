-- Written for this claim by a program of this session (wip/xprint.py), by means of the kit's print. Not trusted: Lean checks it.
import Derived.Test.YtabnnpojckjklaaGreatGx3
namespace Go.Proofs.YtabnnpojckjklaaGreat.G
open Go.RowKit Go.Proofs.YtabnnpojckjklaaGreat.G Go.Proofs.YtabnnpojckjklaaGreatW.PrintWords Go.Proofs.YtabnnpojckjklaaGreatW.PrintLast
def hawserlaw15_MessageKinds.Pure : Prop := ∀ (a0 : Int), ((Lit.int .i64 a0).wf = true) → 1 ≤ 1048576 → hawserlaw15_MessageKinds.f a0 = some true
end Go.Proofs.YtabnnpojckjklaaGreat.G
