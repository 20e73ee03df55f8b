-- Written for this claim by a program of this session (wip/xprint.py), by means of the kit's print. Not trusted: Lean checks it.
import Derived.Test.YtidijiijciokpaaVx1
namespace Go.Proofs.Ytidijiijciokpaa.V
open Go.RowKit Go.Proofs.Ytidijiijciokpaa.V Go.Proofs.YtidijiijciokpaaW.PrintWords Go.Proofs.YtidijiijciokpaaW.PrintLast
def hawserlaw12_DiskRuns.Pure : Prop := ∀ (a0 : Int) (a1 : List (S33)) (a2 : List (S47)), ((Lit.int .i64 a0).wf = true) → (∀ y0 ∈ a1, (True) ∧ (∀ y1 ∈ y0.f1, (Lit.int .u8 y1).wf = true)) → (∀ y0 ∈ a2, (((Lit.int .i64 y0.f0.f0).wf = true) ∧ ((True) ∧ ((True) ∧ ((True) ∧ ((Lit.int .i64 y0.f0.f4).wf = true))))) ∧ (((Lit.int .i64 y0.f1).wf = true) ∧ ((Lit.int .i64 y0.f2).wf = true))) → 1 + ((a1.map (fun x => ((x.f0.size + 1) + (((x.f1.map (fun _ => 1)).sum + 1)) + 1))).sum + 1) + ((a2.map (fun x => ((1 + ((x.f0.f1.size + 1) + ((x.f0.f2.size + 1) + ((x.f0.f3.size + 1) + (1)))) + 1) + (1 + (1)) + 1))).sum + 1) ≤ 1048576 → hawserlaw12_DiskRuns.f a0 a1 a2 = some true
end Go.Proofs.Ytidijiijciokpaa.V
