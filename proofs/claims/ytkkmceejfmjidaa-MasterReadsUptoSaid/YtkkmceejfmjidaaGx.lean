-- Written for this claim by a program of this session (wip/xprint.py), by means of the kit's print. Not trusted: Lean checks it.
import Derived.Test.YtkkmceejfmjidaaGx0
import Derived.Test.YtkkmceejfmjidaaGx1
import Derived.Test.YtkkmceejfmjidaaGx2
import Derived.Test.YtkkmceejfmjidaaGx3
import Derived.Test.YtkkmceejfmjidaaGx4
import Derived.Test.YtkkmceejfmjidaaGx5
import Derived.Test.YtkkmceejfmjidaaGx6
import Derived.Test.YtkkmceejfmjidaaGx7
import Derived.Test.YtkkmceejfmjidaaGx8
import Derived.Test.YtkkmceejfmjidaaGx9
import Derived.Test.YtkkmceejfmjidaaGx10
import Derived.Test.YtkkmceejfmjidaaGx11
import Derived.Test.YtkkmceejfmjidaaGx12
import Derived.Test.YtkkmceejfmjidaaGx13
import Derived.Test.YtkkmceejfmjidaaGx14
import Derived.Test.YtkkmceejfmjidaaGx15
import Derived.Test.YtkkmceejfmjidaaGx16
import Derived.Test.YtkkmceejfmjidaaGx17
namespace Go.Proofs.Ytkkmceejfmjidaa.G
open Go.RowKit Go.Proofs.YtkkmceejfmjidaaW.PrintWords Go.Proofs.YtkkmceejfmjidaaW.PrintLast Go.Proofs.YtkkmceejfmjidaaW.PrintMore
attribute [local go_sem] max2_int min2_int max_two min_two max_three min_three max_four min_four   -- for this text's walks alone
set_option linter.unusedVariables false
set_option linter.unusedSimpArgs false

end Go.Proofs.Ytkkmceejfmjidaa.G
