/- WalLong: of any 'more' and any byte, true (the given second form). -/
import Derived.Test.YtbfcejbjljalmaaStmtWalLong
namespace Go.Proofs.Ytbfcejbjljalmaa.Pure
open Go.RowKit Go.Proofs.Ytbfcejbjljalmaa.Q Go.Proofs.YtbfcejbjljalmaaW.PrintWords Go.Proofs.YtbfcejbjljalmaaW.PrintLast
theorem WalLong : hawserlaw13_WalLong.Pure := fun _ _ _ _ _ => rfl
end Go.Proofs.Ytbfcejbjljalmaa.Pure
