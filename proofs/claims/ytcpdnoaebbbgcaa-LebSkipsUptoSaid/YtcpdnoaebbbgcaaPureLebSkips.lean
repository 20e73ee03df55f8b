/- LebSkips: Skip over any bytes is the document's, and the bytes stay as they are; for every list that is of bulk at most 1048576 (the given second form). -/
import Derived.Test.YtcpdnoaebbbgcaaStmtLebSkips
import Derived.Test.YtcpdnoaebbbgcaaLebTold
namespace Go.Proofs.Ytcpdnoaebbbgcaa.Pure
open Go.RowKit Go.Proofs.Ytcpdnoaebbbgcaa.G Go.Proofs.Ytcpdnoaebbbgcaa.Leb Go.Proofs.Ytcpdnoaebbbgcaa.LebMath Go.Proofs.YtcpdnoaebbbgcaaW.PrintWords Go.Proofs.YtcpdnoaebbbgcaaW.PrintLast
set_option linter.unusedVariables false
set_option linter.unusedSimpArgs false

theorem LebSkips : hawserlaw01_LebSkips.Pure := by
  intro l n hw hn hl
  rw [sum_ones] at hl
  have hb := IsBytes.of_wf hw
  obtain ⟨n0, n1⟩ := i64_wf hn
  have d1 := pskip_ev l hb (by omega) n n1
  have d2 := rskip l hb (by omega) n n1
  have d3 := kept_ev l (by omega)
  have d4 := pskip_ev [5, 128, 1, 7] (by intro x hx; simp at hx; omega) (by simp) 2 (by decide)
  have e4 : SK (([5, 128, 1, 7] : List Int).length + 1) [5, 128, 1, 7] 2 0 = (3, 0) := by decide +kernel
  rw [if_neg (show ¬ ((2 : Int) < 0) by decide), e4] at d4
  obtain ⟨K1, h1⟩ := d1
  obtain ⟨K2, h2⟩ := d2
  obtain ⟨K3, h3⟩ := d3
  obtain ⟨K4, h4⟩ := d4
  refine ⟨K1 + K2 + K3 + K4, ?_⟩
  unfold hawserlaw01_LebSkips.f
  rw [lend_eq l (by omega)]
  simp only [Option.bind_some]
  rw [show leb_Skip.f (K1 + K2 + K3 + K4) l n = _ from h1 _ (by omega), show hawserref01_Skip.f (K1 + K2 + K3 + K4) l n = _ from h2 _ (by omega)]
  simp only [Option.bind_some, if_true]
  rw [show hawserref01_Kept.f (K1 + K2 + K3 + K4) _ l = _ from h3 _ (by omega)]
  simp only [Option.bind_some, if_true]
  rw [show leb_Skip.f (K1 + K2 + K3 + K4) [5, 128, 1, 7] 2 = _ from h4 _ (by omega)]
  rfl
end Go.Proofs.Ytcpdnoaebbbgcaa.Pure
