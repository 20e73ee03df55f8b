/- ConfigNames: the errors, roles and limits have their numbers; for every argument that is together of bulk at most 1048576 (the given second form). -/
import Derived.Test.YtjhijklgpgdlaaaStmtConfigNames
namespace Go.Proofs.Ytjhijklgpgdlaaa.Pure
open Go.RowKit Go.Proofs.Ytjhijklgpgdlaaa.G Go.Proofs.YtjhijklgpgdlaaaW.PrintWords Go.Proofs.YtjhijklgpgdlaaaW.PrintLast
theorem ConfigNames : hawserlaw16_ConfigNames.Pure := by
  show hawserlaw16_ConfigNames.f = some true
  decide +kernel
end Go.Proofs.Ytjhijklgpgdlaaa.Pure
