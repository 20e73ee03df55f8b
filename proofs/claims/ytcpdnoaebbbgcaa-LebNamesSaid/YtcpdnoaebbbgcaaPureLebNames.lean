/- LebNames: the errors' numbers are the document's, and the number 300 has two bytes; no condition. -/
import Derived.Test.YtcpdnoaebbbgcaaPLebNamesx1
namespace Go.Proofs.Ytcpdnoaebbbgcaa.Pure
open Go.RowKit Go.Proofs.Ytcpdnoaebbbgcaa.PLebNames Go.Proofs.YtcpdnoaebbbgcaaW.PrintWords Go.Proofs.YtcpdnoaebbbgcaaW.PrintLast

theorem LebNames : hawserlaw01_LebNames.Pure := ⟨9, by decide +kernel⟩

end Go.Proofs.Ytcpdnoaebbbgcaa.Pure
