/- The row's closed facts, each a lemma of its own: in one term they want more memory than there is. -/
import Derived.Test.YtepkaaplhcbkbaaGreatRows
import Derived.JoinedCond
namespace Go.Proofs.YtepkaaplhcbkbaaGreat
set_option maxHeartbeats 8000000 in
theorem clientMade_closed : joinedFacts Tryz.pinned.checked.prog 8 Tryz.f8 (Rows.OpenSpec.upto Rows.clientMadeSpec).bare Rows.clientMadeUptoRow = true := by
  unfold joinedFacts
  simp only [Bool.and_eq_true]
  repeat' apply And.intro
  all_goals (as_aux_lemma => kernel_rfl)
end Go.Proofs.YtepkaaplhcbkbaaGreat
