/- CfgFol: what config.Follows and config.Alike compute. -/
import Derived.Test.YtjhijklgpgdlaaaCfgFolMath
import Derived.Test.YtjhijklgpgdlaaaGx4
import Derived.Test.YtjhijklgpgdlaaaGx5
import Derived.Test.YtjhijklgpgdlaaaGx3
namespace Go.Proofs.Ytjhijklgpgdlaaa.CfgMath
open Go.RowKit Go.Proofs.Ytjhijklgpgdlaaa.G Go.Proofs.YtjhijklgpgdlaaaW.PrintWords Go.Proofs.YtjhijklgpgdlaaaW.PrintLast Go.Proofs.YtjhijklgpgdlaaaW.PrintMore
set_option linter.unusedVariables false
set_option linter.unusedSimpArgs false
theorem seq0 (l m : List Int) (hl : l.length ≤ 1099511627776) (he : l.length = m.length) : ∀ (d i : Nat), l.length - i = d → i ≤ l.length →
    Ev (fun k => slices_Equal_int_int.l0 k l m (l.length : Int) (i : Int)) (decide (l.drop i = m.drop i)) := by
  intro d
  induction d with
  | zero =>
    intro i hd hi
    refine Ev.step (f := fun _ => some true) (fun k => ?_) (by rw [List.drop_of_length_le (show l.length ≤ i by omega), List.drop_of_length_le (show m.length ≤ i by omega)]; exact Ev.now _)
    simp only [slices_Equal_int_int.l0]
    rw [if_neg (by omega)]
  | succ d ih =>
    intro i hd hi
    have hlt : i < l.length := by omega
    have hmm : i < m.length := by omega
    have hd1 : l.drop i = l[i] :: l.drop (i + 1) := List.drop_eq_getElem_cons hlt
    have hd2 : m.drop i = m[i] :: m.drop (i + 1) := List.drop_eq_getElem_cons hmm
    by_cases hx : l[i] = m[i]
    · have h := ih (i + 1) (by omega) (by omega)
      have he : decide (l.drop i = m.drop i) = decide (l.drop (i + 1) = m.drop (i + 1)) := by
        rw [Bool.eq_iff_iff, decide_eq_true_eq, decide_eq_true_eq, hd1, hd2, hx]
        exact ⟨fun x => (List.cons.inj x).2, fun x => by rw [x]⟩
      rw [he]
      refine Ev.step (fun k => ?_) h
      simp only [slices_Equal_int_int.l0]
      rw [if_pos (by omega), if_pos (by omega), if_pos (by omega), if_pos (by omega), rd_nat l i hlt, rd_nat m i hmm, if_pos hx, w64 (by omega) (by omega)]
      rfl
    · rw [decide_eq_false (fun x => hx (by rw [hd1, hd2] at x; exact (List.cons.inj x).1))]
      refine Ev.step (f := fun _ => some false) (fun k => ?_) (Ev.now _)
      simp only [slices_Equal_int_int.l0]
      rw [if_pos (by omega), if_pos (by omega), if_pos (by omega), if_pos (by omega), rd_nat l i hlt, rd_nat m i hmm, if_neg hx]
theorem seq_ev (l m : List Int) (hl : l.length ≤ 1099511627776) : Ev (fun k => slices_Equal_int_int.f k l m) (decide (l = m)) := by
  unfold slices_Equal_int_int.f
  by_cases he : l.length = m.length
  · have := seq0 l m hl he l.length 0 (by omega) (by omega)
    rw [List.drop_zero, List.drop_zero] at this
    exact Ev.congr (fun k => if_pos (by omega)) this
  · rw [decide_eq_false (fun x => he (by rw [x]))]
    exact Ev.congr (f := fun _ => some false) (fun k => if_neg (by omega)) (Ev.now _)
theorem calike_ev (a b : Int) (l m : List Int) (hl : l.length ≤ 1099511627776) : Ev (fun k => config_Alike.f k a l b m) (decide (a = b ∧ l = m)) := by
  unfold config_Alike.f
  by_cases he : a = b
  · rw [show decide (a = b ∧ l = m) = decide (l = m) from by rw [Bool.eq_iff_iff, decide_eq_true_eq, decide_eq_true_eq]; exact ⟨fun x => x.2, fun x => ⟨he, x⟩⟩]
    exact Ev.congr (fun k => if_pos he) (Ev.bind (seq_ev l m hl) (Ev.now _))
  · rw [decide_eq_false (fun x => he x.1)]
    exact Ev.congr (f := fun _ => some false) (fun k => if_neg he) (Ev.now _)
/-- The rest of Follows, behind the place that the short chain lacks. -/
def folEnd (up : Bool) (L s : List Int) : Bool := if up = true then decide (s = L.take s.length) else del L s
theorem fol_l0 (a b : Int) (l m L s : List Int) (hL : L.length = s.length + 1) (hl : L.length ≤ 1099511627776) : ∀ (d i : Nat), s.length - i = d → i ≤ s.length → s.take i = L.take i →
    Ev (fun k => config_Follows.l0 k L s (s.length : Int) (s.length : Int) (i : Int) a l b m) (folEnd (decide (l.length < m.length)) L s) := by
  intro d
  induction d with
  | zero =>
    intro i hd hi ht
    have hi' : i = s.length := by omega
    subst hi'
    rw [List.take_length] at ht
    by_cases hu : l.length < m.length
    · have he : folEnd (decide (l.length < m.length)) L s = true := by
        unfold folEnd
        rw [decide_eq_true hu, if_pos rfl]
        exact decide_eq_true ht
      rw [he]
      refine Ev.step (f := fun k => (slices_Equal_int_int.f k (s.drop s.length) (L.drop (s.length + 1))).bind fun t => some t) (fun k => ?_) ?_
      · simp only [config_Follows.l0]
        rw [if_neg (show ¬ (s.length : Int) < (s.length : Int) by omega), if_pos (by omega), if_pos True.intro, if_pos (by omega), if_pos (by omega), w64 (by omega) (by omega), if_pos (by omega), if_pos (by omega), show ((s.length : Int)).toNat = s.length by omega, show ((s.length : Int) + 1).toNat = s.length + 1 by omega]
      · have := seq_ev (s.drop s.length) (L.drop (s.length + 1)) (by rw [List.length_drop]; omega)
        rw [decide_eq_true (by rw [List.drop_of_length_le (by omega), List.drop_of_length_le (by omega)])] at this
        exact Ev.bind this (Ev.now _)
    · have he : folEnd (decide (l.length < m.length)) L s = decide (s.drop s.length = L.drop (s.length + 1)) := by
        unfold folEnd
        rw [decide_eq_false hu, if_neg (by simp)]
        exact del_at hL s.length (by omega) (by rw [List.take_length]; exact ht) (.inl rfl)
      rw [he]
      refine Ev.step (f := fun k => (slices_Equal_int_int.f k (s.drop s.length) (L.drop (s.length + 1))).bind fun t => some t) (fun k => ?_) (Ev.bind (seq_ev _ _ (by rw [List.length_drop]; omega)) (Ev.now _))
      simp only [config_Follows.l0]
      rw [if_neg (show ¬ (s.length : Int) < (s.length : Int) by omega), if_neg (by omega), if_pos (by omega), if_pos (by omega), w64 (by omega) (by omega), if_pos (by omega), if_pos (by omega), show ((s.length : Int)).toNat = s.length by omega, show ((s.length : Int) + 1).toNat = s.length + 1 by omega]
  | succ d ih =>
    intro i hd hi ht
    have hlt : i < s.length := by omega
    have hLi : i < L.length := by omega
    by_cases hx : s[i] = L[i]
    · have h := ih (i + 1) (by omega) (by omega) (by rw [List.take_succ_eq_append_getElem hlt, List.take_succ_eq_append_getElem hLi, ht, hx])
      refine Ev.step (fun k => ?_) h
      simp only [config_Follows.l0]
      rw [if_pos (by omega), if_pos (by omega), if_pos (by omega), if_pos (by omega), rd_nat s i hlt, rd_nat L i hLi, if_pos hx, w64 (by omega) (by omega)]
      rfl
    · by_cases hu : l.length < m.length
      · have he : folEnd (decide (l.length < m.length)) L s = false := by
          unfold folEnd
          rw [decide_eq_true hu, if_pos rfl]
          refine decide_eq_false (fun h => hx ?_)
          have : s[i]? = (L.take s.length)[i]? := by rw [← h]
          rw [List.getElem?_take, if_pos hlt, List.getElem?_eq_getElem hlt, List.getElem?_eq_getElem hLi] at this
          exact Option.some.inj this
        rw [he]
        refine Ev.step (f := fun _ => some false) (fun k => ?_) (Ev.now _)
        simp only [config_Follows.l0]
        rw [if_pos (by omega), if_pos (by omega), if_pos (by omega), if_pos (by omega), rd_nat s i hlt, rd_nat L i hLi, if_neg hx, if_pos (by omega), if_neg (by omega)]
      · have he : folEnd (decide (l.length < m.length)) L s = decide (s.drop i = L.drop (i + 1)) := by
          unfold folEnd
          rw [decide_eq_false hu, if_neg (by simp)]
          exact del_at hL i (by omega) ht (.inr ⟨hlt, hx⟩)
        rw [he]
        refine Ev.step (f := fun k => (slices_Equal_int_int.f k (s.drop i) (L.drop (i + 1))).bind fun t => some t) (fun k => ?_) (Ev.bind (seq_ev _ _ (by rw [List.length_drop]; omega)) (Ev.now _))
        simp only [config_Follows.l0]
        rw [if_pos (by omega), if_pos (by omega), if_pos (by omega), if_pos (by omega), rd_nat s i hlt, rd_nat L i hLi, if_neg hx, if_neg (by omega), w64 (by omega) (by omega), if_pos (by omega), if_pos (by omega), show ((i : Int)).toNat = i by omega, show ((i : Int) + 1).toNat = i + 1 by omega]
theorem fol_j1 (a b : Int) (l m L s : List Int) (hl : L.length ≤ 1099511627776) (hs : s.length ≤ 1099511627776) :
    Ev (fun k => config_Follows.j1 k L s a l b m) (decide (L.length = s.length + 1) && folEnd (decide (l.length < m.length)) L s) := by
  by_cases hL : L.length = s.length + 1
  · rw [decide_eq_true hL, Bool.true_and]
    refine Ev.step (fun k => ?_) (fol_l0 a b l m L s hL hl s.length 0 (by omega) (by omega) (by rw [List.take_zero, List.take_zero]))
    simp only [config_Follows.j1]
    rw [w64 (by omega) (by omega), if_pos (by omega)]
    rfl
  · rw [decide_eq_false hL, Bool.false_and]
    refine Ev.step (f := fun _ => some false) (fun k => ?_) (Ev.now _)
    simp only [config_Follows.j1]
    rw [w64 (by omega) (by omega), if_neg (by omega)]
theorem follows_ev (a : Int) (l : List Int) (b : Int) (m : List Int) : Ev (fun k => config_Follows.f k a l b m) (fol a l b m) := by
  have j0f : Ev (fun k => config_Follows.j0 k true a l b m) false := by
    refine Ev.step (f := fun _ => some false) (fun k => ?_) (Ev.now _)
    simp only [config_Follows.j0]
    rw [if_pos True.intro]
  unfold config_Follows.f
  by_cases ha : chk a l = 0
  · obtain ⟨a1, a2, a3, a4, a5⟩ := chk_zero.1 ha
    by_cases hb : chk b m = 0
    · obtain ⟨b1, b2, b3, b4, b5⟩ := chk_zero.1 hb
      by_cases he : b = a + 1
      · have hf : fol a l b m = if l.length < m.length then (decide (m.length = l.length + 1) && folEnd (decide (l.length < m.length)) m l) else (decide (l.length = m.length + 1) && folEnd (decide (l.length < m.length)) l m) := by
          unfold fol folEnd
          rw [decide_eq_true (show chk a l = 0 ∧ chk b m = 0 ∧ b = a + 1 from ⟨ha, hb, he⟩), Bool.true_and]
          by_cases hu : l.length < m.length
          · rw [if_pos hu, if_pos hu, decide_eq_true hu, if_pos rfl, Bool.eq_iff_iff, Bool.and_eq_true, decide_eq_true_eq, decide_eq_true_eq, decide_eq_true_eq]
          · rw [if_neg hu, if_neg hu, decide_eq_false hu, if_neg (by simp)]
        refine Ev.congr (f := fun k => config_Follows.j0 k false a l b m) (fun k => ?_) ?_
        · rw [check_f, Option.bind_some, if_pos ha, check_f, Option.bind_some, if_pos hb, w64 (by omega) (by omega), he, bne_self_eq_false]
        · rw [hf]
          by_cases hu : l.length < m.length
          · rw [if_pos hu]
            refine Ev.step (fun k => ?_) (fol_j1 a b l m m l (by omega) (by omega))
            simp only [config_Follows.j0]
            rw [if_neg (by simp), if_pos (by omega)]
          · rw [if_neg hu]
            refine Ev.step (fun k => ?_) (fol_j1 a b l m l m (by omega) (by omega))
            simp only [config_Follows.j0]
            rw [if_neg (by simp), if_neg (by omega)]
      · have hf : fol a l b m = false := by unfold fol; rw [decide_eq_false (fun x => he x.2.2), Bool.false_and]
        rw [hf]
        refine Ev.congr (fun k => ?_) j0f
        rw [check_f, Option.bind_some, if_pos ha, check_f, Option.bind_some, if_pos hb, w64 (by omega) (by omega), bne_iff_ne.2 he]
    · have hf : fol a l b m = false := by unfold fol; rw [decide_eq_false (fun x => hb x.2.1), Bool.false_and]
      rw [hf]
      refine Ev.congr (fun k => ?_) j0f
      rw [check_f, Option.bind_some, if_pos ha, check_f, Option.bind_some, if_neg hb]
  · have hf : fol a l b m = false := by unfold fol; rw [decide_eq_false (fun x => ha x.1), Bool.false_and]
    rw [hf]
    refine Ev.congr (fun k => ?_) j0f
    rw [check_f, Option.bind_some, if_neg ha]
end Go.Proofs.Ytjhijklgpgdlaaa.CfgMath
