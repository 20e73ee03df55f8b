-- Written for this claim by a program of this session (wip/xprint.py), by means of the kit's print. Not trusted: Lean checks it.
import Derived.Test.YtpcnppdkifepcaaGx1
namespace Go.Proofs.Ytpcnppdkifepcaa.G
open Go.RowKit Go.Proofs.Ytpcnppdkifepcaa.G Go.Proofs.YtpcnppdkifepcaaW.PrintWords Go.Proofs.YtpcnppdkifepcaaW.PrintLast
def hawserlaw12_DiskNames.Pure : Prop := hawserlaw12_DiskNames.f = some true
end Go.Proofs.Ytpcnppdkifepcaa.G
