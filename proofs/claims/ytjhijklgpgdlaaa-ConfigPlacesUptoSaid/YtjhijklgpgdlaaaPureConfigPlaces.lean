/- ConfigPlaces: Head, Tail, Prev, Next and Role answer as the document says, of any configuration and any node; what is handed in stays; for every argument that is together of bulk at most 1048576 (the given second form). -/
import Derived.Test.YtjhijklgpgdlaaaStmtConfigPlaces
import Derived.Test.YtjhijklgpgdlaaaCfgRef
namespace Go.Proofs.Ytjhijklgpgdlaaa.Pure
open Go.RowKit Go.Proofs.Ytjhijklgpgdlaaa.G Go.Proofs.Ytjhijklgpgdlaaa.CfgMath Go.Proofs.YtjhijklgpgdlaaaW.PrintWords Go.Proofs.YtjhijklgpgdlaaaW.PrintLast Go.Proofs.YtjhijklgpgdlaaaW.PrintMore
theorem ConfigPlaces : hawserlaw16_ConfigPlaces.Pure := by
  intro a0 n _ _ hb
  rw [sum_ones] at hb
  obtain ⟨e, l⟩ := a0
  replace hb : (1 + (l.length + 1) + 1) + 1 ≤ 1048576 := hb
  show ∃ k, hawserlaw16_ConfigPlaces.f k e l n = some true
  have hl : l.length ≤ 1099511627776 := by omega
  have h0 := pos_nonneg l n
  have h1 := pos_le l n
  have ht1 : nth e l (l.length : Int) = nth e l ((l.length : Int) - 1 + 1) := by congr 1; omega
  have ep : nth e l ((if chk e l = 0 then pos l n else 0) - 1) = if pos l n = 0 then 0 else nth e l (pos l n + -1) := by
    by_cases hc : chk e l = 0
    · rw [if_pos hc]
      by_cases z : pos l n = 0
      · rw [if_pos z, z]; unfold nth; rw [if_neg (by omega)]
      · rw [if_neg z]; congr 1
    · rw [if_neg hc]
      by_cases z : pos l n = 0
      · rw [if_pos z]; unfold nth; rw [if_neg (by omega)]
      · rw [if_neg z]; unfold nth; rw [if_neg (by omega), if_neg (by omega)]
  have en : (if (if chk e l = 0 then pos l n else 0) = 0 then 0 else nth e l ((if chk e l = 0 then pos l n else 0) + 1)) = if pos l n = 0 then 0 else nth e l (pos l n + 1) := by
    by_cases hc : chk e l = 0
    · rw [if_pos hc]
    · rw [if_neg hc, if_pos rfl]
      by_cases z : pos l n = 0
      · rw [if_pos z]
      · rw [if_neg z]; unfold nth; rw [if_neg (by omega)]
  have j1 : Ev (fun k => hawserlaw16_ConfigPlaces.j1 k n true true e l e l e l) true := by
    refine Ev.step (fun k => ?_) (f := fun k => (hawserref16_Role.f k e l n).bind fun t => if role e l n = t then ((hawserlaw16_kept.f k e l e l).bind fun t => if t = true then ((config_Head.f 1 ([5] : List Int)).bind fun t => some (t == 5)) else some false) else some false) ?_
    · simp only [hawserlaw16_ConfigPlaces.j1]
      rw [if_pos True.intro, if_pos True.intro, role_f, Option.bind_some]
    · refine Ev.bind (rrole_ev e l n hl) ?_
      refine Ev.congr (fun k => if_pos rfl) (Ev.bind (kept_ev e l hl) ?_)
      refine Ev.congr (f := fun _ => some true) (fun k => ?_) (Ev.now _)
      decide +kernel
  have j0 : Ev (fun k => hawserlaw16_ConfigPlaces.j0 k n true e l e l e l) true := by
    refine Ev.step (fun k => ?_) (f := fun k => (hawserref16_Beside.f k e l n (-1)).bind fun t => if (if pos l n = 0 then 0 else nth e l (pos l n + -1)) = t then ((hawserref16_Beside.f k e l n 1).bind fun t2 => hawserlaw16_ConfigPlaces.j1 k n true ((if pos l n = 0 then 0 else nth e l (pos l n + 1)) == t2) e l e l e l) else (hawserlaw16_ConfigPlaces.j1 k n true false e l e l e l)) ?_
    · simp only [hawserlaw16_ConfigPlaces.j0]
      rw [prev_f _ _ _ hl, next_f _ _ _ hl, Option.bind_some, Option.bind_some, ep, en]
    · refine Ev.bind (rbeside_ev e l n (-1) hl (by omega)) ?_
      refine Ev.congr (fun k => if_pos rfl) (Ev.bind (rbeside_ev e l n 1 hl (by omega)) ?_)
      refine Ev.congr (fun k => ?_) j1
      rw [beq_self_eq_true]
  have : Ev (fun k => hawserlaw16_ConfigPlaces.f k e l n) true := by
    refine Ev.congr (f := fun k => (hawserref16_At.f k e l 0).bind fun t => if nth e l 1 = t then ((hawserref16_At.f k e l ((l.length : Int) - 1)).bind fun t2 => hawserlaw16_ConfigPlaces.j0 k n (nth e l l.length == t2) e l e l e l) else (hawserlaw16_ConfigPlaces.j0 k n false e l e l e l)) (fun k => ?_) ?_
    · unfold hawserlaw16_ConfigPlaces.f hawserlaw16_plain.f
      rw [twin_f e l hl, Option.bind_some, Option.bind_some, head_f _ _ hl, Option.bind_some, tail_f _ _ hl, Option.bind_some, w64 (by omega) (by omega)]
    · refine Ev.bind (rat_ev e l 0) ?_
      refine Ev.congr (fun k => if_pos rfl) (Ev.bind (rat_ev e l _) ?_)
      refine Ev.congr (fun k => ?_) j0
      rw [ht1, beq_self_eq_true]
  exact this.rounds
end Go.Proofs.Ytjhijklgpgdlaaa.Pure
