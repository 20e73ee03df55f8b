/- DiskNames: the disk's errors and limits have their numbers, and a new disk's one file takes its room; there is no argument (the given second form). -/
import Derived.Test.YtpcnppdkifepcaaStmtDiskNames
namespace Go.Proofs.Ytpcnppdkifepcaa.Pure
open Go.RowKit Go.Proofs.Ytpcnppdkifepcaa.G Go.Proofs.YtpcnppdkifepcaaW.PrintWords Go.Proofs.YtpcnppdkifepcaaW.PrintLast
theorem DiskNames : hawserlaw12_DiskNames.Pure := by
  show hawserlaw12_DiskNames.f = some true
  rfl
end Go.Proofs.Ytpcnppdkifepcaa.Pure
