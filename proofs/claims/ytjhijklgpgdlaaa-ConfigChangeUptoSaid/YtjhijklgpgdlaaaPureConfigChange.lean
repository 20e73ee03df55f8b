/- ConfigChange: what follows has the next epoch, shares a node, and has the shared nodes in their order; With and Without undo each other; for every argument that is together of bulk at most 1048576 (the given second form). -/
import Derived.Test.YtjhijklgpgdlaaaStmtConfigChange
import Derived.Test.YtjhijklgpgdlaaaCfgFol
import Derived.Test.YtjhijklgpgdlaaaCfgMay
import Derived.Test.YtjhijklgpgdlaaaCfgOrd
namespace Go.Proofs.Ytjhijklgpgdlaaa.Pure
open Go.RowKit Go.Proofs.Ytjhijklgpgdlaaa.G Go.Proofs.Ytjhijklgpgdlaaa.CfgMath Go.Proofs.YtjhijklgpgdlaaaW.PrintWords Go.Proofs.YtjhijklgpgdlaaaW.PrintLast Go.Proofs.YtjhijklgpgdlaaaW.PrintMore
theorem fol_back (a : Int) (l : List Int) (b : Int) (m : List Int) (h : b = a + 1) : fol b m a l = false := by
  unfold fol
  rw [decide_eq_false (fun x => by have := x.2.2; omega), Bool.false_and]
theorem chk_next {a : Int} {l : List Int} {b : Int} {m : List Int} (h : fol a l b m = true) : chk b m = 0 ∧ b = a + 1 := by
  unfold fol at h
  rw [Bool.and_eq_true, decide_eq_true_eq] at h
  exact ⟨h.1.2.1, h.1.2.2⟩
theorem change_j2 (ns : List Int) (hn : ns.length ≤ 1048576) (i : Nat) (hi : i < ns.length) (a : Int) (l : List Int) (b : Int) (m : List Int) (hc : chk a l = 0) (hai : a ≤ i + 1)
    (hx : wo a l (rd ns i) = (b, m, 0) ∨ wi a l (rd ns i) = (b, m, 0)) (hm : m.length ≤ 8)
    (h : Ev (fun k => hawserlaw16_ConfigChange.l0 k ns ((i + 1 : Nat) : Int) b m) true) :
    Ev (fun k => hawserlaw16_ConfigChange.j2 k ns (i : Int) false a l b m) true := by
  obtain ⟨c1, c2, c3, c4, c5⟩ := chk_zero.1 hc
  rcases hx with hx | hx
  · obtain ⟨_, hp, h1, he, hb, hme⟩ := wo_ok hx
    have h0 := pos_nonneg l (rd ns i)
    have hle := pos_le l (rd ns i)
    have hlen : m.length = l.length - 1 := by rw [hme]; exact List.length_eraseIdx_of_lt (by omega)
    refine Ev.step (fun k => ?_) h
    simp only [hawserlaw16_ConfigChange.j2]
    rw [if_neg (by simp), if_neg (by omega), w64 (by omega) (by omega)]
    rfl
  · obtain ⟨_, n1, n8, hp, he, hb, hme⟩ := wi_ok hx
    have hk : okl [] (l ++ [rd ns i]) = true := okl_snoc.2 ⟨c5, n1, n8, (pos_zero l _).1 hp⟩
    have hlen : (l ++ [rd ns i]).length = l.length + 1 := by simp
    have hcm : chk b m = 0 := by rw [hb, hme]; exact chk_zero.2 ⟨by omega, by omega, by omega, by rw [← hme]; exact hm, hk⟩
    have hmax : b ≠ 1099511627776 := by omega
    · have hw : wo b m (rd ns i) = (b + 1, l, 0) := by
        have hpm : pos m (rd ns i) = (l.length : Int) + 1 := by
          rw [hme, pos_app, if_neg (by omega), pos_one, if_pos rfl, if_neg (by omega)]
        unfold wo
        rw [if_neg (fun x => x hcm), hpm, if_neg (by omega), if_neg (by rw [hme, hlen]; omega), if_neg hmax, hme, show ((l.length : Int) + 1 - 1).toNat = l.length by omega, show ((l.length : Int) + 1).toNat = l.length + 1 by omega, List.take_left' rfl, List.drop_of_length_le (by omega), List.append_nil]
      refine Ev.step (f := fun k => (config_Alike.f k a l a l).bind fun t => if t = true then hawserlaw16_ConfigChange.l0 k ns ((i + 1 : Nat) : Int) b m else none) (fun k => ?_) ?_
      · simp only [hawserlaw16_ConfigChange.j2]
        rw [if_neg (by simp), if_pos (by rw [hme, hlen]; omega), if_pos (by omega), if_pos (by omega), without_f, hw, Option.bind_some, if_pos rfl, w64 (by omega) (by omega)]
        rfl
      · have := calike_ev a a l l (by omega)
        rw [decide_eq_true (show a = a ∧ l = l from ⟨rfl, rfl⟩)] at this
        exact Ev.bind this (Ev.congr (fun k => if_pos rfl) h)
theorem change_l0 (ns : List Int) (hn : ns.length ≤ 1048576) : ∀ (d i : Nat) (a : Int) (l : List Int), ns.length - i = d → i ≤ ns.length → chk a l = 0 → a ≤ i + 1 →
    Ev (fun k => hawserlaw16_ConfigChange.l0 k ns (i : Int) a l) true := by
  intro d
  induction d with
  | zero =>
    intro i a l hd hi hc hai
    refine Ev.step (f := fun _ => some true) (fun k => ?_) (Ev.now _)
    simp only [hawserlaw16_ConfigChange.l0]
    rw [if_neg (by omega), check_f, hc]
    rfl
  | succ d ih =>
    intro i a l hd hi hc hai
    have hlt : i < ns.length := by omega
    obtain ⟨c1, c2, c3, c4, c5⟩ := chk_zero.1 hc
    -- a step that is taken
    have taken : ∀ (b : Int) (m : List Int), (wo a l (rd ns i) = (b, m, 0) ∨ wi a l (rd ns i) = (b, m, 0)) → (1 ≤ rd ns i ∧ rd ns i ≤ 8) → Ev (fun k => hawserlaw16_ConfigChange.j1 k ns (i : Int) 0 a l b m) true := by
      intro b m hx hr
      have hf : fol a l b m = true := by rw [fol_eq, folR_iff]; exact ⟨_, hr.1, hr.2, hx⟩
      obtain ⟨hcb, hb⟩ := chk_next hf
      obtain ⟨b1, b2, b3, b4, b5⟩ := chk_zero.1 hcb
      have h1 := follows_ev a l b m
      rw [hf] at h1
      have h2 := follows_ev b m a l
      rw [fol_back a l b m hb] at h2
      have ho : Ev (fun k => hawserlaw16_ordered.f k l m) true := by
        rcases hx with hx | hx
        · obtain ⟨_, hp, hl1, _, _, hme⟩ := wo_ok hx
          have h0 := pos_nonneg l (rd ns i)
          have hle := pos_le l (rd ns i)
          rw [hme]
          exact ord_erase l _ c5 (by omega) (by omega)
        · obtain ⟨_, _, _, hp, _, _, hme⟩ := wi_ok hx
          rw [hme] at b5 ⊢
          exact ord_snoc l _ b5 (by omega)
      have hnext := ih (i + 1) b m (by omega) (by omega) hcb (by omega)
      have hj2 := change_j2 ns (by omega) i hlt a l b m hc hai hx b4 hnext
      refine Ev.step (f := fun k => (config_Follows.f k a l b m).bind fun t575 => (if t575 = true then ((config_Follows.f k b m a l).bind fun t576 => (if t576 = true then (hawserlaw16_ConfigChange.j2 k ns (i : Int) true a l b m) else ((hawserlaw16_ordered.f k l m).bind fun t577 => (hawserlaw16_ConfigChange.j2 k ns (i : Int) (!t577) a l b m)))) else (hawserlaw16_ConfigChange.j2 k ns (i : Int) true a l b m))) (fun k => ?_) ?_
      · simp only [hawserlaw16_ConfigChange.j1]
        rw [if_pos True.intro, w64 (n := a + 1) (by omega) (by omega), if_pos hb]
      · refine Ev.bind h1 (Ev.congr (fun k => if_pos rfl) (Ev.bind h2 (Ev.congr (fun k => if_neg (by simp)) (Ev.bind ho hj2))))
    by_cases hw : (wo a l (rd ns i)).2.2 = 0
    · obtain ⟨b, m, e⟩ : ∃ b m, wo a l (rd ns i) = (b, m, 0) := ⟨_, _, by rw [← hw]⟩
      obtain ⟨_, hp, _, _, _, _⟩ := wo_ok e
      have hmem : rd ns i ∈ l := by
        apply Classical.byContradiction
        intro h
        exact hp ((pos_zero l _).2 h)
      refine Ev.step (fun k => ?_) (taken b m (.inl e) (((okl_iff l []).1 c5).1 _ hmem))
      simp only [hawserlaw16_ConfigChange.l0]
      rw [if_pos (by omega), if_pos (by omega), without_f, e, Option.bind_some, if_pos rfl]
    · refine Ev.step (f := fun k => (config_With.f k a l (rd ns i)).bind fun bt => hawserlaw16_ConfigChange.j1 k ns (i : Int) bt.2.2 a l bt.1 bt.2.1) (fun k => ?_) (Ev.bind (with_ev a l (rd ns i)) ?_)
      · simp only [hawserlaw16_ConfigChange.l0]
        rw [if_pos (by omega), if_pos (by omega), without_f, Option.bind_some, if_neg hw]
      · by_cases hw2 : (wi a l (rd ns i)).2.2 = 0
        · obtain ⟨b, m, e⟩ : ∃ b m, wi a l (rd ns i) = (b, m, 0) := ⟨_, _, by rw [← hw2]⟩
          obtain ⟨_, n1, n8, _, _, _, _⟩ := wi_ok e
          rw [e]
          exact taken b m (.inr e) ⟨n1, n8⟩
        · refine Ev.step (fun k => ?_) (ih (i + 1) a l (by omega) (by omega) hc (by omega))
          simp only [hawserlaw16_ConfigChange.j1]
          rw [if_neg hw2, w64 (by omega) (by omega)]
          rfl
theorem ConfigChange : hawserlaw16_ConfigChange.Pure := by
  intro a0 a1 _ _ hb
  rw [sum_ones, sum_ones] at hb
  obtain ⟨m, hm, h1, h8, hok⟩ := may_ev a0 (by omega)
  have hc : chk 1 m = 0 := chk_zero.2 ⟨by omega, by omega, h1, h8, hok⟩
  have hs := change_l0 a1 (by omega) a1.length 0 1 m (by omega) (by omega) hc (by omega)
  have : Ev (fun k => hawserlaw16_ConfigChange.f k a0 a1) true := by
    unfold hawserlaw16_ConfigChange.f
    refine Ev.bind hm (Ev.congr (fun k => ?_) hs)
    rw [first_f m (by omega), if_pos hc, Option.bind_some]
    exact if_pos rfl
  exact this.rounds
end Go.Proofs.Ytjhijklgpgdlaaa.Pure
