/- ClientStale: an answer of an epoch that is over for the client is let go, and so is one to another request; for every argument of bulk at most 1048576 (the given second form). -/
import Derived.Test.YtepkaaplhcbkbaaGreatStmtClientStale
import Derived.Test.YtepkaaplhcbkbaaGreatCliRef
namespace Go.Proofs.YtepkaaplhcbkbaaGreat.Pure
open Go.RowKit Go.Proofs.YtepkaaplhcbkbaaGreat.K Go.Proofs.YtepkaaplhcbkbaaGreat.CfgMath Go.Proofs.YtepkaaplhcbkbaaGreat.CliRef Go.Proofs.YtepkaaplhcbkbaaGreatW.PrintWords Go.Proofs.YtepkaaplhcbkbaaGreatW.PrintLast Go.Proofs.YtepkaaplhcbkbaaGreatW.PrintMore
theorem okn_ok : ∀ (l : List Int) (a : List Bool), a.length = 9 → (∀ x ∈ l, 1 ≤ x ∧ x ≤ 8) → l.Nodup → (∀ x ∈ l, a.getD x.toNat false = false) → Go.Proofs.YtepkaaplhcbkbaaGreat.G.Msg.okn l a = true
  | [], _, _, _, _, _ => rfl
  | n :: l, a, h9, hr, hn, hs => by
    have h1 := hr n (by simp)
    have h2 := hs n (by simp)
    rw [Go.Proofs.YtepkaaplhcbkbaaGreat.G.Msg.okn, if_neg (by rw [h2]; simp; omega)]
    refine okn_ok l _ (by simp [h9]) (fun x hx => hr x (by simp [hx])) (List.nodup_cons.1 hn).2 (fun x hx => ?_)
    have h3 := hr x (by simp [hx])
    have hne : x ≠ n := fun h => (List.nodup_cons.1 hn).1 (h ▸ hx)
    have h4 := hs x (by simp [hx])
    rw [List.getD_eq_getElem?_getD] at h4 ⊢
    rw [List.getElem?_set_ne (by omega)]
    exact h4
theorem ClientStale : hawserlaw23_ClientStale.Pure := by
  intro id a back hi hw hbk hb
  rw [CfgMath.sum_ones] at hb
  refine ⟨95, ?_⟩
  unfold hawserlaw23_ClientStale.f
  rw [if_pos (by omega), cc_at _ _ _ (by omega), Option.bind_some, if_pos]
  intro h0 h2
  unfold CfgMath.chk at h0
  split at h0
  · omega
  · next hA =>
    split at h0
    · omega
    · next hB =>
      split at h0
      · next hC =>
        have hk := (okl_iff _ _).1 hC
        refine ⟨?_, by omega, by omega⟩
        unfold Go.Proofs.YtepkaaplhcbkbaaGreat.G.Msg.rcfg
        rw [decide_eq_true (by omega), decide_eq_true (by omega), okn_ok _ _ rfl hk.1 hk.2.1 ?_]
        · rfl
        · intro x hx
          have := hk.1 x hx
          have : x = 1 ∨ x = 2 ∨ x = 3 ∨ x = 4 ∨ x = 5 ∨ x = 6 ∨ x = 7 ∨ x = 8 := by omega
          rcases this with rfl | rfl | rfl | rfl | rfl | rfl | rfl | rfl <;> rfl
      · omega
end Go.Proofs.YtepkaaplhcbkbaaGreat.Pure
