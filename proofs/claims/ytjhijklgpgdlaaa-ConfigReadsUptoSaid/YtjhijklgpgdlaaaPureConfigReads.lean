/- ConfigReads: Decode answers what the document's Decode says, of any bytes, which stay; what it takes Encode writes again; for every argument of bulk at most 1048576 (the given second form). -/
import Derived.Test.YtjhijklgpgdlaaaStmtConfigReads
import Derived.Test.YtjhijklgpgdlaaaCfgReads
namespace Go.Proofs.Ytjhijklgpgdlaaa.Pure
open Go.RowKit Go.Proofs.Ytjhijklgpgdlaaa.G Go.Proofs.Ytjhijklgpgdlaaa.CfgMath Go.Proofs.Ytjhijklgpgdlaaa.CfgEnc Go.Proofs.Ytjhijklgpgdlaaa.CfgReads Go.Proofs.YtjhijklgpgdlaaaW.PrintWords Go.Proofs.YtjhijklgpgdlaaaW.PrintLast Go.Proofs.YtjhijklgpgdlaaaW.PrintMore
theorem num_f (a : Int) : hawserlaw16_num.f a = some a := rfl
theorem one17 : ∀ r, Ans [1, 1, 7] r → r = (1, [7], 0) := by
  intro r h
  have g : Ans [1, 1, 7] (1, [7], 0) := .inr ⟨rfl, (by decide), (by unfold cfgBytes; rw [LebMath.lput_small (by decide)]; rfl)⟩
  exact h.same g
theorem ConfigReads : hawserlaw16_ConfigReads.Pure := by
  intro l hw hb
  rw [CfgMath.sum_ones] at hb
  have hby : LebMath.IsBytes l := LebMath.IsBytes.of_wf hw
  show ∃ k, hawserlaw16_ConfigReads.f k l = some true
  obtain ⟨r, hr, ar⟩ := pdecode_ev l hby (by omega)
  obtain ⟨s, hs, bs⟩ := rdecode_ev l hby (by omega)
  obtain ⟨o, ho, ao⟩ := pdecode_ev [1, 1, 7] (by intro x hx; simp at hx; omega) (by decide)
  obtain rfl := one17 o ao
  obtain rfl := ar.same bs
  have hlen : r.2.1.length ≤ 1099511627776 := by
    rcases ar with ⟨rfl, _⟩ | ⟨_, h2, _⟩
    · simp
    · obtain ⟨_, _, _, h4, _⟩ := chk_zero.1 h2; omega
  have hsame : Ev (fun k => hawserlaw16_same.f k r.1 r.2.1 r.1 r.2.1) true := by
    have := ralike_ev r.1 r.1 r.2.1 r.2.1 hlen
    rw [decide_eq_true ⟨rfl, rfl⟩] at this
    exact Ev.bind (f := fun _ t => some t) this (Ev.now _)
  have hj : Ev (fun k => hawserlaw16_ConfigReads.j0 k l r.2.2 false r.1 r.2.1) true := by
    by_cases c : r.2.2 = 0
    · rcases ar with ⟨rfl, _⟩ | ⟨_, h2, h3⟩
      · cases c
      · have he := encode_ev r.1 r.2.1
        rw [if_pos h2, h3] at he
        refine Ev.step (fun k => ?_) (Ev.bind (f := fun _ bt214 => (if bt214.2 = 0 then (some ((strOfNums bt214.1).toList == (strOfNums l).toList)) else (none))) he (Ev.congr (f := fun _ => some true) (fun k => ?_) (Ev.now _)))
        · simp only [hawserlaw16_ConfigReads.j0]
          rw [if_neg (by decide), if_pos c]
        · simp
    · refine Ev.step (fun k => ?_) (Ev.bind (f := fun _ (bt221 : Int × List Int × Int) => (if bt221.2.2 = 0 then (if bt221.1 = 1 then (if (bt221.2.1.length : Int) = 1 then (if 0 < (bt221.2.1.length : Int) then (some ((rd bt221.2.1 0) == 7)) else (none)) else (none)) else (none)) else (none))) ho (Ev.congr (f := fun _ => some true) (fun k => ?_) (Ev.now _)))
      · simp only [hawserlaw16_ConfigReads.j0]
        rw [if_neg (by decide), if_neg c]
      · rfl
  have : Ev (fun k => hawserlaw16_ConfigReads.f k l) true := by
    refine Ev.congr (f := fun k => (config_Decode.f k l).bind fun bt200 => ((hawserref16_Decode.f k l).bind fun bt206 => ((hawserlaw16_same.f k bt200.1 bt200.2.1 bt206.1 bt206.2.1).bind fun t212 => (if t212 = true then ((hawserlaw16_num.f bt200.2.2).bind fun t213 => (if t213 = bt206.2.2 then (hawserlaw16_ConfigReads.j0 k l bt200.2.2 ((strOfNums l).toList != (strOfNums l).toList) bt200.1 bt200.2.1) else (hawserlaw16_ConfigReads.j0 k l bt200.2.2 true bt200.1 bt200.2.1))) else (hawserlaw16_ConfigReads.j0 k l bt200.2.2 true bt200.1 bt200.2.1))))) (fun k => ?_) ?_
    · unfold hawserlaw16_ConfigReads.f
      rw [if_pos (by simp only [List.length_nil]; omega), List.nil_append, Option.bind_some]
    · refine Ev.bind hr (Ev.bind hs (Ev.bind hsame (Ev.congr (fun k => ?_) hj)))
      rw [if_pos rfl, num_f, Option.bind_some, if_pos rfl]
      have : ((strOfNums l).toList != (strOfNums l).toList) = false := by simp
      rw [this]
  exact this.rounds
end Go.Proofs.Ytjhijklgpgdlaaa.Pure
