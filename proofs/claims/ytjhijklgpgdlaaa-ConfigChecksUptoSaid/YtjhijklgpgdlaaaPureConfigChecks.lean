/- ConfigChecks: Check and First answer as the document says, of any configuration, which stays as it is; for every argument that is together of bulk at most 1048576 (the given second form). -/
import Derived.Test.YtjhijklgpgdlaaaStmtConfigChecks
import Derived.Test.YtjhijklgpgdlaaaCfgSame
namespace Go.Proofs.Ytjhijklgpgdlaaa.Pure
open Go.RowKit Go.Proofs.Ytjhijklgpgdlaaa.G Go.Proofs.Ytjhijklgpgdlaaa.CfgMath Go.Proofs.YtjhijklgpgdlaaaW.PrintWords Go.Proofs.YtjhijklgpgdlaaaW.PrintLast Go.Proofs.YtjhijklgpgdlaaaW.PrintMore
theorem ConfigChecks : hawserlaw16_ConfigChecks.Pure := by
  intro a0 _ hb
  rw [sum_ones] at hb
  obtain ⟨e, l⟩ := a0
  replace hb : 1 + (l.length + 1) + 1 ≤ 1048576 := hb
  show ∃ k, hawserlaw16_ConfigChecks.f k e l = some true
  have hl : l.length ≤ 1099511627776 := by omega
  have : Ev (fun k => hawserlaw16_ConfigChecks.f k e l) true := by
    refine Ev.congr (f := fun k => (hawserref16_Check.f k 1 l).bind fun t311 => (if t311 = 0 then ((hawserref16_Check.f k e l).bind fun t317 => (if chk e l = t317 then (if (if chk 1 l = 0 then ((1 : Int), l, (0 : Int)) else (0, [], chk 1 l)).2.2 = t311 then ((hawserlaw16_same.f k (if chk 1 l = 0 then ((1 : Int), l, (0 : Int)) else (0, [], chk 1 l)).1 (if chk 1 l = 0 then ((1 : Int), l, (0 : Int)) else (0, [], chk 1 l)).2.1 1 l).bind fun t319 => (if t319 = true then ((hawserlaw16_kept.f k e l e l).bind fun t320 => (some t320)) else (none))) else (none)) else (none))) else ((hawserref16_Check.f k e l).bind fun t326 => (if chk e l = t326 then (if (if chk 1 l = 0 then ((1 : Int), l, (0 : Int)) else (0, [], chk 1 l)).2.2 = t311 then ((hawserlaw16_same.f k (if chk 1 l = 0 then ((1 : Int), l, (0 : Int)) else (0, [], chk 1 l)).1 (if chk 1 l = 0 then ((1 : Int), l, (0 : Int)) else (0, [], chk 1 l)).2.1 0 ([] : List Int)).bind fun t328 => (if t328 = true then ((hawserlaw16_kept.f k e l e l).bind fun t329 => (some t329)) else (none))) else (none)) else (none))))) (fun k => ?_) ?_
    · unfold hawserlaw16_ConfigChecks.f hawserlaw16_plain.f hawserlaw16_num.f
      rw [twin_f e l hl]
      simp only [Option.bind_some]
      rw [check_f, first_f l hl]
      simp only [Option.bind_some]
    · refine Ev.bind (rcheck_ev 1 l) ?_
      by_cases hc : chk 1 l = 0
      · refine Ev.congr (fun k => if_pos hc) (Ev.bind (rcheck_ev e l) (Ev.congr (fun k => if_pos rfl) ?_))
        rw [if_pos hc]
        refine Ev.congr (fun k => if_pos hc.symm) (Ev.bind (same_refl 1 l hl) (Ev.congr (fun k => if_pos rfl) (Ev.bind (kept_ev e l hl) (Ev.now _))))
      · refine Ev.congr (fun k => if_neg hc) (Ev.bind (rcheck_ev e l) (Ev.congr (fun k => if_pos rfl) ?_))
        rw [if_neg hc]
        refine Ev.congr (fun k => if_pos rfl) (Ev.bind (same_refl 0 [] (by simp)) (Ev.congr (fun k => if_pos rfl) (Ev.bind (kept_ev e l hl) (Ev.now _))))
  exact this.rounds
end Go.Proofs.Ytjhijklgpgdlaaa.Pure
