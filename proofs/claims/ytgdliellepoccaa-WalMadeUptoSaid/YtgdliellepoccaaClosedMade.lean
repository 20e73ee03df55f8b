/- The row's closed facts, each a lemma of its own: in one term they want more memory than there is. -/
import Derived.Test.YtgdliellepoccaaRows
import Derived.JoinedCond
namespace Go.Proofs.Ytgdliellepoccaa
set_option maxHeartbeats 8000000 in
theorem walMade_closed : joinedFacts Try.pinned.checked.prog 4 Try.f4 (Rows.OpenSpec.upto Rows.walMadeSpec).bare Rows.walMadeUptoRow = true := by
  unfold joinedFacts
  simp only [Bool.and_eq_true]
  repeat' apply And.intro
  all_goals (as_aux_lemma => kernel_rfl)
end Go.Proofs.Ytgdliellepoccaa
