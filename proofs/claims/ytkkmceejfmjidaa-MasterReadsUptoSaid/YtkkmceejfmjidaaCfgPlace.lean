/- CfgPlace: what config.place computes. -/
import Derived.Test.YtkkmceejfmjidaaCfgMath
import Derived.Test.YtkkmceejfmjidaaGx2
namespace Go.Proofs.Ytkkmceejfmjidaa.CfgMath
open Go.RowKit Go.Proofs.Ytkkmceejfmjidaa.G Go.Proofs.YtkkmceejfmjidaaW.PrintWords Go.Proofs.YtkkmceejfmjidaaW.PrintLast Go.Proofs.YtkkmceejfmjidaaW.PrintMore
set_option linter.unusedVariables false
set_option linter.unusedSimpArgs false
theorem cfgPlace_eq (e : Int) (l : List Int) (n : Int) : cfgPlace e l n = if chk e l = 0 then pos l n else 0 := by
  unfold cfgPlace
  rw [cfgCheck_eq]
  by_cases hc : chk e l = 0
  · rw [if_pos hc]
    have hg := (chk_zero.1 hc).2.2.2.2
    have hr := (okl_iff l []).1 hg
    by_cases hn : n < 1 ∨ 8 < n
    · rw [if_pos (by omega)]
      have : n ∉ l := fun h => by have := hr.1 n h; omega
      rw [(pos_zero l n).2 this]
    · rw [if_neg (by omega)]
      obtain ⟨b, hb, hm⟩ := (plc_spec l [] zeros9 zeros rfl).1 hg
      rw [show plc l 0 zeros9 = some b from hb]
      exact hm n (by omega) (by omega)
  · rw [if_neg hc, if_pos (by omega)]
theorem place_f (e : Int) (l : List Int) (n : Int) : config_place.f e l n = some (if chk e l = 0 then pos l n else 0) := by rw [← cfgPlace_eq]; rfl
end Go.Proofs.Ytkkmceejfmjidaa.CfgMath
