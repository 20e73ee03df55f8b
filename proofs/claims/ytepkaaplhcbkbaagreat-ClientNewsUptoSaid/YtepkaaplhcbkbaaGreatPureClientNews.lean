/- ClientNews: client.New refuses what the document's New refuses, with its error, and what a new client tells is what the document's tells; for every argument of bulk at most 1048576 (the given second form). -/
import Derived.Test.YtepkaaplhcbkbaaGreatStmtClientNews
import Derived.Test.YtepkaaplhcbkbaaGreatCliRef
namespace Go.Proofs.YtepkaaplhcbkbaaGreat.Pure
open Go.RowKit Go.Proofs.YtepkaaplhcbkbaaGreat.J Go.Proofs.YtepkaaplhcbkbaaGreat.CfgMath Go.Proofs.YtepkaaplhcbkbaaGreat.CliRef Go.Proofs.YtepkaaplhcbkbaaGreatW.PrintWords Go.Proofs.YtepkaaplhcbkbaaGreatW.PrintLast Go.Proofs.YtepkaaplhcbkbaaGreatW.PrintMore
theorem ClientNews : hawserlaw23_ClientNews.Pure := by
  intro id a hi hw hb
  rw [CfgMath.sum_ones] at hb
  obtain ⟨K, h⟩ := rsame_ev a.f0 a.f1 0 0 0 0 (by omega)
  refine ⟨K + 95, ?_⟩
  unfold hawserlaw23_ClientNews.f
  have hs : Go.Proofs.YtepkaaplhcbkbaaGreat.H.hawserlaw23_sameConfig.f (K + 95) a.f0 a.f1 a.f0 a.f1 = some true := by
    unfold Go.Proofs.YtepkaaplhcbkbaaGreat.H.hawserlaw23_sameConfig.f
    have : Go.Proofs.YtepkaaplhcbkbaaGreat.H.hawserref21_Same.f (K + 95) a.f0 a.f1 0 0 0 0 a.f0 a.f1 0 0 0 0 = some true := h (K + 95) (by omega)
    rw [this]; rfl
  rw [if_pos (by omega), check_f, Option.bind_some, cc_at _ _ _ (by omega), Option.bind_some, hs, Option.bind_some, if_pos ⟨rfl, rfl⟩]
end Go.Proofs.YtepkaaplhcbkbaaGreat.Pure
