/- ConfigWalk: from the head by Next one comes through all nodes to the tail, and by Prev back; one head, one tail; for every argument that is together of bulk at most 1048576 (the given second form). -/
import Derived.Test.YtjhijklgpgdlaaaStmtConfigWalk
import Derived.Test.YtjhijklgpgdlaaaCfgMath
import Derived.Test.YtjhijklgpgdlaaaCfgMay
namespace Go.Proofs.Ytjhijklgpgdlaaa.Pure
open Go.RowKit Go.Proofs.Ytjhijklgpgdlaaa.G Go.Proofs.Ytjhijklgpgdlaaa.CfgMath Go.Proofs.YtjhijklgpgdlaaaW.PrintWords Go.Proofs.YtjhijklgpgdlaaaW.PrintLast Go.Proofs.YtjhijklgpgdlaaaW.PrintMore

theorem walk_step (m : List Int) (h1 : 1 ≤ m.length) (h8 : m.length ≤ 8) (hok : okl [] m = true) : ∀ (d i : Nat), m.length - i = d → i < m.length →
    Ev (fun k => hawserlaw16_ConfigWalk.l0 k (rd m i) (if i = 0 then 0 else 1) 0 (i : Int) 1 m) true := by
  have hc : chk 1 m = 0 := chk_zero.2 ⟨by omega, by omega, h1, h8, hok⟩
  intro d
  induction d with
  | zero => intro i hd hi; omega
  | succ d ih =>
    intro i hd hi
    have hp : pos m (rd m i) = (i : Int) + 1 := pos_of_rd m hok i hi
    have hr : role 1 m (rd m i) = if m.length = 1 then 4 else if i = 0 then 1 else if i + 1 = m.length then 3 else 2 := by
      unfold role
      rw [if_pos (show chk 1 m = 0 ∧ pos m (rd m i) ≠ 0 from ⟨hc, by omega⟩), hp]
      by_cases e1 : m.length = 1
      · rw [if_pos e1, if_pos e1]
      · rw [if_neg e1, if_neg e1]
        by_cases e2 : i = 0
        · rw [if_pos (by omega), if_pos e2]
        · rw [if_neg (by omega), if_neg e2]
          by_cases e3 : i + 1 = m.length
          · rw [if_pos (by omega), if_pos e3]
          · rw [if_neg (by omega), if_neg e3]
    -- behind the counts
    have j4 : Ev (fun k => hawserlaw16_ConfigWalk.j4 k (rd m i) 1 (if i + 1 = m.length then 1 else 0) (i : Int) 1 m) true := by
      by_cases hlast : i + 1 = m.length
      · refine Ev.step (f := fun _ => some true) (fun k => ?_) (Ev.now _)
        simp only [hawserlaw16_ConfigWalk.j4]
        rw [next_f _ _ _ (by omega), if_pos hc, hp, Option.bind_some, if_neg (show ¬ ((i : Int) + 1 = 0) by omega)]
        have e0 : nth 1 m ((i : Int) + 1 + 1) = 0 := by unfold nth; rw [if_neg (by omega)]
        have e1 : nth 1 m (m.length : Int) = rd m i := by
          unfold nth; rw [if_pos ⟨by omega, by omega, hc⟩]; congr 1; omega
        rw [e0, if_pos rfl, w64 (by omega) (by omega), if_pos (by omega), tail_f _ _ (by omega), Option.bind_some, e1, if_pos rfl, if_pos True.intro, if_pos hlast]
        rfl
      · have hn := ih (i + 1) (by omega) (by omega)
        have hp' : pos m (rd m ((i + 1 : Nat) : Int)) = ((i + 1 : Nat) : Int) + 1 := pos_of_rd m hok (i + 1) (by omega)
        have e0 : nth 1 m ((i : Int) + 1 + 1) = rd m ((i + 1 : Nat) : Int) := by
          unfold nth; rw [if_pos ⟨by omega, by omega, hc⟩]; congr 1; omega
        have hb := rd_range m hok (i + 1) (by omega)
        have e1 : nth 1 m (((i + 1 : Nat) : Int) + 1 - 1) = rd m i := by
          unfold nth; rw [if_pos ⟨by omega, by omega, hc⟩]; congr 1; omega
        refine Ev.step (f := fun k => hawserlaw16_ConfigWalk.l0 k (rd m ((i + 1 : Nat) : Int)) 1 0 ((i + 1 : Nat) : Int) 1 m) (fun k => ?_) (by simpa using hn)
        simp only [hawserlaw16_ConfigWalk.j4]
        rw [next_f _ _ _ (by omega), if_pos hc, hp, Option.bind_some, if_neg (show ¬ ((i : Int) + 1 = 0) by omega), e0, if_neg (by omega), prev_f _ _ _ (by omega), if_pos hc, hp', Option.bind_some, e1, if_pos rfl, if_neg hlast, w64 (by omega) (by omega)]
        congr 1
    -- the tail's count
    have j2 : Ev (fun k => hawserlaw16_ConfigWalk.j2 k (rd m i) 1 0 (i : Int) (role 1 m (rd m i)) 1 m) true := by
      have j3 : Ev (fun k => hawserlaw16_ConfigWalk.j3 k (rd m i) 1 0 (i : Int) (decide (i + 1 = m.length)) 1 m) true := by
        refine Ev.step (fun k => ?_) j4
        simp only [hawserlaw16_ConfigWalk.j3]
        by_cases hlast : i + 1 = m.length
        · rw [decide_eq_true hlast, if_pos rfl, if_pos hlast, w64 (by omega) (by omega)]; rfl
        · rw [decide_eq_false hlast, if_neg (by simp), if_neg hlast]
      refine Ev.step (fun k => ?_) j3
      simp only [hawserlaw16_ConfigWalk.j2]
      rw [hr]
      by_cases e1 : m.length = 1
      · rw [if_pos e1, if_neg (by omega), decide_eq_true (by omega)]; rfl
      · rw [if_neg e1]
        by_cases e2 : i = 0
        · rw [if_pos e2, if_neg (by omega), decide_eq_false (by omega)]; rfl
        · rw [if_neg e2]
          by_cases e3 : i + 1 = m.length
          · rw [if_pos e3, if_pos rfl, decide_eq_true e3]
          · rw [if_neg e3, if_neg (by omega), decide_eq_false e3]; rfl
    -- the head's count
    have j1 : Ev (fun k => hawserlaw16_ConfigWalk.j1 k (rd m i) (if i = 0 then 0 else 1) 0 (i : Int) (role 1 m (rd m i)) (decide (i = 0)) 1 m) true := by
      refine Ev.step (fun k => ?_) j2
      simp only [hawserlaw16_ConfigWalk.j1]
      by_cases e2 : i = 0
      · rw [decide_eq_true e2, if_pos rfl, if_pos e2, w64 (by omega) (by omega)]; rfl
      · rw [decide_eq_false e2, if_neg (by simp), if_neg e2]
    refine Ev.step (fun k => ?_) j1
    simp only [hawserlaw16_ConfigWalk.l0]
    rw [if_pos (by omega), if_pos (by omega), if_pos True.intro, role_f, Option.bind_some, hr]
    by_cases e1 : m.length = 1
    · rw [if_pos e1, if_neg (by omega), decide_eq_true (show i = 0 by omega)]; rfl
    · rw [if_neg e1]
      by_cases e2 : i = 0
      · rw [if_pos e2, if_pos rfl, decide_eq_true e2]
      · rw [if_neg e2, decide_eq_false e2]
        by_cases e3 : i + 1 = m.length
        · rw [if_pos e3, if_neg (by omega)]; rfl
        · rw [if_neg e3, if_neg (by omega)]; rfl
theorem ConfigWalk : hawserlaw16_ConfigWalk.Pure := by
  intro a0 _ hb
  rw [sum_ones] at hb
  obtain ⟨m, hm, h1, h8, hok⟩ := may_ev a0 (by omega)
  have hc : chk 1 m = 0 := chk_zero.2 ⟨by omega, by omega, h1, h8, hok⟩
  have hs := walk_step m h1 h8 hok (m.length) 0 (by omega) (by omega)
  have : Ev (fun k => hawserlaw16_ConfigWalk.f k a0) true := by
    unfold hawserlaw16_ConfigWalk.f
    refine Ev.bind hm ?_
    refine Ev.congr (f := fun k => hawserlaw16_ConfigWalk.l0 k (rd m ((0 : Nat) : Int)) 0 0 0 1 m) (fun k => ?_) (by simpa using hs)
    rw [first_f m (by omega), if_pos hc, Option.bind_some]
    show (if (0 : Int) = 0 then _ else _) = _
    rw [if_pos rfl]
    show (config_Head.f 1 m).bind _ = _
    rw [head_f _ _ (by omega), Option.bind_some]
    have e1 : nth 1 m 1 = rd m ((0 : Nat) : Int) := by unfold nth; rw [if_pos ⟨by omega, by omega, hc⟩]; rfl
    rw [e1]
  exact this.rounds
end Go.Proofs.Ytjhijklgpgdlaaa.Pure
