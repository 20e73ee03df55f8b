/- ConfigFollows: Follows and Alike answer as the document says, of any two configurations, which stay; for every argument that is together of bulk at most 1048576 (the given second form). -/
import Derived.Test.YtjhijklgpgdlaaaStmtConfigFollows
import Derived.Test.YtjhijklgpgdlaaaCfgFol
import Derived.Test.YtjhijklgpgdlaaaCfgFolRef
namespace Go.Proofs.Ytjhijklgpgdlaaa.Pure
open Go.RowKit Go.Proofs.Ytjhijklgpgdlaaa.G Go.Proofs.Ytjhijklgpgdlaaa.CfgMath Go.Proofs.YtjhijklgpgdlaaaW.PrintWords Go.Proofs.YtjhijklgpgdlaaaW.PrintLast Go.Proofs.YtjhijklgpgdlaaaW.PrintMore
theorem ConfigFollows : hawserlaw16_ConfigFollows.Pure := by
  intro a0 a1 _ _ hb
  rw [sum_ones, sum_ones] at hb
  obtain ⟨a, l⟩ := a0
  obtain ⟨b, m⟩ := a1
  replace hb : 1 + (l.length + 1) + 1 + (1 + (m.length + 1) + 1) ≤ 1048576 := hb
  show ∃ k, hawserlaw16_ConfigFollows.f k a l b m = some true
  have hl : l.length ≤ 1099511627776 := by omega
  have hm : m.length ≤ 1099511627776 := by omega
  have h1 := follows_ev a l b m
  have h2 := calike_ev a b l m hl
  have h3 := follows_ev 1 [5] 2 [5, 6]
  have h4 := rfollows_ev a l b m
  have h5 := ralike_ev a b l m hl
  rw [show fol 1 [5] 2 [5, 6] = true from by decide +kernel] at h3
  generalize fol a l b m = x at h1 h4
  generalize decide (a = b ∧ l = m) = y at h2 h5
  have : Ev (fun k => hawserlaw16_ConfigFollows.f k a l b m) true := by
    refine Ev.congr (f := fun k => (config_Follows.f k a l b m).bind fun t521 => ((config_Alike.f k a l b m).bind fun t522 => ((config_Follows.f k 1 (([5] : List Int)) 2 (([5, 6] : List Int))).bind fun t529 => ((hawserref16_Follows.f k a l b m).bind fun t538 => (if (t521 == t538) = true then ((hawserref16_Alike.f k a l b m).bind fun t547 => (if (t522 == t547) = true then ((hawserlaw16_kept.f k a l a l).bind fun t548 => (if t548 = true then ((hawserlaw16_kept.f k b m b m).bind fun t549 => (if t549 = true then (some t529) else (none))) else (none))) else (none))) else (none)))))) (fun k => ?_) ?_
    · unfold hawserlaw16_ConfigFollows.f hawserlaw16_plain.f
      rw [twin_f a l hl, twin_f b m hm]
      simp only [Option.bind_some]
    · refine Ev.bind h1 (Ev.bind h2 (Ev.bind h3 (Ev.bind h4 (Ev.congr (fun k => if_pos (by rw [beq_self_eq_true])) (Ev.bind h5 (Ev.congr (fun k => if_pos (by rw [beq_self_eq_true])) (Ev.bind (kept_ev a l hl) (Ev.congr (fun k => if_pos rfl) (Ev.bind (kept_ev b m hm) (Ev.now _))))))))))
  exact this.rounds
end Go.Proofs.Ytjhijklgpgdlaaa.Pure
