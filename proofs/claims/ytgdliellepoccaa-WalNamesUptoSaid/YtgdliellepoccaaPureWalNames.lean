/- WalNames: the errors' numbers and the limit are the document's, and the document's first example goes so; there is no argument (the given second form). -/
import Derived.Test.YtgdliellepoccaaStmtWalNames
namespace Go.Proofs.Ytgdliellepoccaa.Pure
open Go.RowKit Go.Proofs.Ytgdliellepoccaa.Q Go.Proofs.YtgdliellepoccaaW.PrintWords Go.Proofs.YtgdliellepoccaaW.PrintLast
theorem WalNames : hawserlaw13_WalNames.Pure := by
  first | rfl | exact ⟨1, rfl⟩ | decide +kernel
end Go.Proofs.Ytgdliellepoccaa.Pure
