/- LebDecodes: Decode of any bytes is the document's Read, and the bytes stay as they are; for every list that is of bulk at most 1048576 (the given second form). -/
import Derived.Test.YtcpdnoaebbbgcaaStmtLebDecodes
import Derived.Test.YtcpdnoaebbbgcaaLeb
namespace Go.Proofs.Ytcpdnoaebbbgcaa.Pure
open Go.RowKit Go.Proofs.Ytcpdnoaebbbgcaa.G Go.Proofs.Ytcpdnoaebbbgcaa.Leb Go.Proofs.Ytcpdnoaebbbgcaa.LebMath Go.Proofs.YtcpdnoaebbbgcaaW.PrintWords Go.Proofs.YtcpdnoaebbbgcaaW.PrintLast
set_option linter.unusedVariables false
set_option linter.unusedSimpArgs false

theorem LebDecodes : hawserlaw01_LebDecodes.Pure := by
  intro l hw hl
  rw [sum_ones] at hl
  have hb := IsBytes.of_wf hw
  have d1 := dec_ev l hb (by omega)
  have d2 := read_ev l hb (by omega)
  have d3 := kept_ev l (by omega)
  have d4 := dec_ev [172, 2, 119] (by intro x hx; simp at hx; omega) (by simp)
  have e4 : DEC [172, 2, 119] = (300, 2, 0) := by decide +kernel
  rw [e4] at d4
  obtain ⟨K1, h1⟩ := d1
  obtain ⟨K2, h2⟩ := d2
  obtain ⟨K3, h3⟩ := d3
  obtain ⟨K4, h4⟩ := d4
  refine ⟨K1 + K2 + K3 + K4, ?_⟩
  unfold hawserlaw01_LebDecodes.f
  rw [lend_eq l (by omega)]
  simp only [Option.bind_some]
  rw [show leb_Decode.f (K1 + K2 + K3 + K4) l = _ from h1 _ (by omega), show hawserref01_Read.f (K1 + K2 + K3 + K4) l = _ from h2 _ (by omega)]
  simp only [Option.bind_some, if_true]
  rw [show hawserref01_Kept.f (K1 + K2 + K3 + K4) _ l = _ from h3 _ (by omega)]
  simp only [Option.bind_some, if_true]
  rw [show leb_Decode.f (K1 + K2 + K3 + K4) [172, 2, 119] = _ from h4 _ (by omega)]
  rfl
end Go.Proofs.Ytcpdnoaebbbgcaa.Pure
