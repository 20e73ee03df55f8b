/- ConfigOwn: the chains that config answers are the caller's own, whatever chain comes in; for every argument of bulk at most 1048576 (the given second form). -/
import Derived.Test.YtjhijklgpgdlaaaStmtConfigOwn
import Derived.Test.YtjhijklgpgdlaaaCfgReads
import Derived.Test.YtjhijklgpgdlaaaCfgAlike
import Derived.Test.YtjhijklgpgdlaaaCfgStepP
import Derived.Test.YtjhijklgpgdlaaaCfgMay
namespace Go.Proofs.Ytjhijklgpgdlaaa.Pure
open Go.RowKit Go.Proofs.Ytjhijklgpgdlaaa.G Go.Proofs.Ytjhijklgpgdlaaa.CfgMath Go.Proofs.Ytjhijklgpgdlaaa.CfgEnc Go.Proofs.Ytjhijklgpgdlaaa.CfgReads Go.Proofs.YtjhijklgpgdlaaaW.PrintWords Go.Proofs.YtjhijklgpgdlaaaW.PrintLast Go.Proofs.YtjhijklgpgdlaaaW.PrintMore
theorem node_spec (own : List Int) : ∀ t : Nat, Co.nodeAt own t = 0 ∨ (1 ≤ Co.nodeAt own t ∧ Co.nodeAt own t ≤ t ∧ Co.nodeAt own t ∉ own) := by
  intro t
  induction t with
  | zero => exact .inl rfl
  | succ t ih =>
    have h : Co.nodeAt own (t + 1) = if own.contains ((t : Int) + 1) then Co.nodeAt own t else (t : Int) + 1 := rfl
    rw [h]
    by_cases hc : own.contains ((t : Int) + 1) = true
    · rw [if_pos hc]
      rcases ih with ih | ⟨h1, h2, h3⟩
      · exact .inl ih
      · exact .inr ⟨h1, by omega, h3⟩
    · rw [if_neg hc]
      refine .inr ⟨by omega, by omega, fun hm => hc ?_⟩
      exact List.contains_iff_mem.2 hm
theorem ConfigOwn : hawserlaw16_ConfigOwn.Pure := by
  intro l _ hb
  rw [CfgMath.sum_ones] at hb
  show ∃ k, hawserlaw16_ConfigOwn.f k l = some true
  obtain ⟨own, hm, m1, m8, mok⟩ := may_ev l (by omega)
  have hchk : chk 1 own = 0 := chk_zero.2 ⟨by omega, by omega, by omega, by omega, mok⟩
  have hF : config_First.f own = some (1, own, 0) := by rw [first_f own (by omega), if_pos hchk]
  have henc := encode_ev 1 own
  rw [if_pos hchk] at henc
  have hlen : (cfgBytes 1 own).length ≤ 100 := by
    unfold cfgBytes
    rw [LebMath.lput_small (by decide), List.length_append, List.length_cons]
    simp only [List.length_cons, List.length_nil]
    omega
  obtain ⟨r, hdec, hans⟩ := pdecode_ev (cfgBytes 1 own) (cfgBytes_bytes hchk) (by omega)
  obtain rfl : r = (1, own, 0) := hans.same (.inr ⟨rfl, hchk, rfl⟩)
  have hal := calike_ev 1 1 own own (by omega)
  rw [decide_eq_true ⟨rfl, rfl⟩] at hal
  have : Ev (fun k => hawserlaw16_ConfigOwn.f k l) true := by
    unfold hawserlaw16_ConfigOwn.f
    refine Ev.bind hm ?_
    simp only [hF, Option.bind_some]
    refine Ev.bind henc (Ev.bind hdec (Ev.bind hal ?_))
    by_cases hn : Co.nodeAt own 8 = 0
    · refine Ev.congr (f := fun _ => some true) (fun k => ?_) (Ev.now true)
      rw [if_pos (by refine ⟨by trivial, by trivial, by trivial, by trivial, ?_, ?_, ?_⟩ <;> (show own.length ≤ _; omega)), if_pos hn]
    · obtain ⟨n1, n8, nm⟩ := (node_spec own 8).resolve_left hn
      have hp : pos own (Co.nodeAt own 8) = 0 := (pos_zero own _).2 nm
      have hw : wi 1 own (Co.nodeAt own 8) = (2, own ++ [Co.nodeAt own 8], 0) := by
        unfold wi
        rw [if_neg (by rw [hchk]; exact fun h => h rfl), if_neg (by rw [hp]; omega), if_neg (by decide)]
        rfl
      have hwi := with_ev 1 own (Co.nodeAt own 8)
      rw [hw] at hwi
      have hok2 : okl [] (own ++ [Co.nodeAt own 8]) = true := by
        have := okl_nxt own (Co.nodeAt own 8) mok
        unfold nxt at this
        rwa [if_pos ⟨nm, n1, by omega⟩] at this
      have h8 := okl_len _ hok2
      have hl2 : (own ++ [Co.nodeAt own 8]).length = own.length + 1 := by rw [List.length_append]; rfl
      have hchk2 : chk 2 (own ++ [Co.nodeAt own 8]) = 0 := chk_zero.2 ⟨by omega, by omega, by omega, by omega, hok2⟩
      have hp2 : ¬ pos (own ++ [Co.nodeAt own 8]) (Co.nodeAt own 8) = 0 := fun h => (pos_zero _ _).1 h (by simp)
      have hwo3 : (wo 2 (own ++ [Co.nodeAt own 8]) (Co.nodeAt own 8)).2.2 = 0 := by
        unfold wo
        rw [if_neg (by rw [hchk2]; exact fun h => h rfl), if_neg hp2, if_neg (by omega), if_neg (by decide)]
      have hwol := wo_len 2 (own ++ [Co.nodeAt own 8]) (Co.nodeAt own 8)
      refine Ev.congr (f := fun k => (config_With.f k 1 own (Co.nodeAt own 8)).bind fun x => (config_Without.f x.1 x.2.1 (Co.nodeAt own 8)).bind fun y => if x.2.2 = 0 ∧ y.2.2 = 0 ∧ x.2.1.length ≤ 1099511627776 ∧ y.2.1.length ≤ 1099511627776 then some true else none) (fun k => ?_) (Ev.bind hwi (Ev.congr (f := fun _ => some true) (fun k => ?_) (Ev.now true)))
      · rw [if_pos (by refine ⟨by trivial, by trivial, by trivial, by trivial, ?_, ?_, ?_⟩ <;> (show own.length ≤ _; omega)), if_neg hn]
      · rw [without_f, Option.bind_some, if_pos ⟨by trivial, hwo3, by show (own ++ [Co.nodeAt own 8]).length ≤ _; omega, by show (wo 2 (own ++ [Co.nodeAt own 8]) (Co.nodeAt own 8)).2.1.length ≤ _; omega⟩]
  exact this.rounds
end Go.Proofs.Ytjhijklgpgdlaaa.Pure
