/- CfgSame: what hawserlaw16.same computes. -/
import Derived.Test.YtjhijklgpgdlaaaCfgRef
import Derived.Test.YtjhijklgpgdlaaaGx9
namespace Go.Proofs.Ytjhijklgpgdlaaa.CfgMath
open Go.RowKit Go.Proofs.Ytjhijklgpgdlaaa.G Go.Proofs.YtjhijklgpgdlaaaW.PrintWords Go.Proofs.YtjhijklgpgdlaaaW.PrintLast Go.Proofs.YtjhijklgpgdlaaaW.PrintMore
theorem same_ev (a b : Int) (l m : List Int) (hl : l.length ≤ 1099511627776) : Ev (fun k => hawserlaw16_same.f k a l b m) (decide (a = b ∧ l = m)) := by
  unfold hawserlaw16_same.f hawserlaw16_plain.f
  exact Ev.bind (Ev.now (a, l)) (Ev.bind (ralike_ev a b l m hl) (Ev.now _))
theorem same_refl (a : Int) (l : List Int) (hl : l.length ≤ 1099511627776) : Ev (fun k => hawserlaw16_same.f k a l a l) true := by
  have := same_ev a a l l hl
  rwa [decide_eq_true (show a = a ∧ l = l from ⟨rfl, rfl⟩)] at this
end Go.Proofs.Ytjhijklgpgdlaaa.CfgMath
