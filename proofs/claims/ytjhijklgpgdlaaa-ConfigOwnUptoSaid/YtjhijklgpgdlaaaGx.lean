-- Written for this claim by a program of this session (wip/xprint.py), by means of the kit's print. Not trusted: Lean checks it.
import Derived.Test.YtjhijklgpgdlaaaGx0
import Derived.Test.YtjhijklgpgdlaaaGx1
import Derived.Test.YtjhijklgpgdlaaaGx2
import Derived.Test.YtjhijklgpgdlaaaGx3
import Derived.Test.YtjhijklgpgdlaaaGx4
import Derived.Test.YtjhijklgpgdlaaaGx5
import Derived.Test.YtjhijklgpgdlaaaGx6
import Derived.Test.YtjhijklgpgdlaaaGx7
import Derived.Test.YtjhijklgpgdlaaaGx8
import Derived.Test.YtjhijklgpgdlaaaGx9
import Derived.Test.YtjhijklgpgdlaaaGx10
namespace Go.Proofs.Ytjhijklgpgdlaaa.G
open Go.RowKit Go.Proofs.YtjhijklgpgdlaaaW.PrintWords Go.Proofs.YtjhijklgpgdlaaaW.PrintLast Go.Proofs.YtjhijklgpgdlaaaW.PrintMore
attribute [local go_sem] max2_int min2_int max_two min_two max_three min_three max_four min_four   -- for this text's walks alone
set_option linter.unusedVariables false
set_option linter.unusedSimpArgs false

end Go.Proofs.Ytjhijklgpgdlaaa.G
