/- CfgFirst: what config.First computes. -/
import Derived.Test.YtjhijklgpgdlaaaCfgMath
import Derived.Test.YtjhijklgpgdlaaaGx2
namespace Go.Proofs.Ytjhijklgpgdlaaa.CfgMath
open Go.RowKit Go.Proofs.Ytjhijklgpgdlaaa.G Go.Proofs.YtjhijklgpgdlaaaW.PrintWords Go.Proofs.YtjhijklgpgdlaaaW.PrintLast Go.Proofs.YtjhijklgpgdlaaaW.PrintMore
set_option linter.unusedVariables false
set_option linter.unusedSimpArgs false
theorem first_f (l : List Int) (hl : l.length ≤ 1099511627776) : config_First.f l = some (if chk 1 l = 0 then (1, l, 0) else (0, [], chk 1 l)) := by
  unfold config_First.f slices_Clone_int_int.f
  rw [if_pos hl, Option.bind_some, check_f, Option.bind_some]
  split <;> rfl
end Go.Proofs.Ytjhijklgpgdlaaa.CfgMath
