/- MessageNames: the errors', kinds' and addresses' numbers are the document's, every kind has the document's name, and the document's one message has its bytes; there is no argument (the given second form). -/
import Derived.Test.YtepkaaplhcbkbaaGreatStmtMessageNames
namespace Go.Proofs.YtepkaaplhcbkbaaGreat.Pure
open Go.RowKit Go.Proofs.YtepkaaplhcbkbaaGreat.L Go.Proofs.YtepkaaplhcbkbaaGreatW.PrintWords Go.Proofs.YtepkaaplhcbkbaaGreatW.PrintLast
theorem MessageNames : hawserlaw15_MessageNames.Pure := ⟨40, by decide +kernel⟩
end Go.Proofs.YtepkaaplhcbkbaaGreat.Pure
