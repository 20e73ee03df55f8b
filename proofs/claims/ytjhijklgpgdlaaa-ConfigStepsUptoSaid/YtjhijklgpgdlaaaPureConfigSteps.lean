/- ConfigSteps: Without and With answer as the document says, of any configuration and any node; what is handed in stays; for every argument that is together of bulk at most 1048576 (the given second form). -/
import Derived.Test.YtjhijklgpgdlaaaStmtConfigSteps
import Derived.Test.YtjhijklgpgdlaaaCfgStep
namespace Go.Proofs.Ytjhijklgpgdlaaa.Pure
open Go.RowKit Go.Proofs.Ytjhijklgpgdlaaa.G Go.Proofs.Ytjhijklgpgdlaaa.CfgMath Go.Proofs.YtjhijklgpgdlaaaW.PrintWords Go.Proofs.YtjhijklgpgdlaaaW.PrintLast Go.Proofs.YtjhijklgpgdlaaaW.PrintMore
theorem ConfigSteps : hawserlaw16_ConfigSteps.Pure := by
  intro a0 n _ _ hb
  rw [sum_ones] at hb
  obtain ⟨e, l⟩ := a0
  replace hb : (1 + (l.length + 1) + 1) + 1 ≤ 1048576 := hb
  show ∃ k, hawserlaw16_ConfigSteps.f k e l n = some true
  have hl : l.length ≤ 1099511627776 := by omega
  have h1 := with_ev e l n
  have h2 := rwithout_ev e l n
  have h3 := rwith_ev e l n
  have h4 := with_ev 1 [5] 6
  have l1 := wo_len e l n
  have l2 := wi_len e l n
  have e4 : wi 1 [5] 6 = (2, [5, 6], 0) := by decide +kernel
  rw [e4] at h4
  have hw := without_f e l n
  generalize wo e l n = x at h2 hw l1
  generalize wi e l n = y at h1 h3 l2
  have : Ev (fun k => hawserlaw16_ConfigSteps.f k e l n) true := by
    refine Ev.congr (f := fun k => (config_With.f k e l n).bind fun bt397 => ((hawserref16_Without.f k e l n).bind fun bt407 => ((hawserref16_With.f k e l n).bind fun bt417 => ((config_With.f k 1 (([5] : List Int)) 6).bind fun bt426 => ((hawserlaw16_same.f k x.1 x.2.1 bt407.1 bt407.2.1).bind fun t432 => (if t432 = true then (if x.2.2 = bt407.2.2 then ((hawserlaw16_same.f k bt397.1 bt397.2.1 bt417.1 bt417.2.1).bind fun t434 => (if t434 = true then (if bt397.2.2 = bt417.2.2 then ((hawserlaw16_kept.f k e l e l).bind fun t436 => (if t436 = true then (if bt426.2.2 = 0 then (some (bt426.1 == 2)) else (none)) else (none))) else (none)) else (none))) else (none)) else (none))))))) (fun k => ?_) ?_
    · unfold hawserlaw16_ConfigSteps.f hawserlaw16_plain.f hawserlaw16_num.f
      rw [twin_f e l hl]
      simp only [Option.bind_some]
      rw [hw]
      simp only [Option.bind_some]
    · refine Ev.bind h1 (Ev.bind h2 (Ev.bind h3 (Ev.bind h4 (Ev.bind (same_refl x.1 x.2.1 (by omega)) ?_))))
      refine Ev.congr (fun k => by rw [if_pos rfl, if_pos rfl]) (Ev.bind (same_refl y.1 y.2.1 (by omega)) ?_)
      refine Ev.congr (fun k => ?_) (Ev.bind (f := fun _ t => if t = true then some true else none) (kept_ev e l hl) (Ev.now true))
      rw [if_pos rfl, if_pos rfl]
      congr 1
  exact this.rounds
end Go.Proofs.Ytjhijklgpgdlaaa.Pure
