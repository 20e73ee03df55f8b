/- CfgAlike: what config.Alike computes. -/
import Derived.Test.YtjhijklgpgdlaaaCfgMath
import Derived.Test.YtjhijklgpgdlaaaGx3
import Derived.Test.YtjhijklgpgdlaaaGx3
namespace Go.Proofs.Ytjhijklgpgdlaaa.CfgMath
open Go.RowKit Go.Proofs.Ytjhijklgpgdlaaa.G Go.Proofs.YtjhijklgpgdlaaaW.PrintWords Go.Proofs.YtjhijklgpgdlaaaW.PrintLast Go.Proofs.YtjhijklgpgdlaaaW.PrintMore
set_option linter.unusedVariables false
set_option linter.unusedSimpArgs false
theorem seq0 (l m : List Int) (hl : l.length ≤ 1099511627776) (he : l.length = m.length) : ∀ (d i : Nat), l.length - i = d → i ≤ l.length →
    Ev (fun k => slices_Equal_int_int.l0 k l m (l.length : Int) (i : Int)) (decide (l.drop i = m.drop i)) := by
  intro d
  induction d with
  | zero =>
    intro i hd hi
    refine Ev.step (f := fun _ => some true) (fun k => ?_) (by rw [List.drop_of_length_le (show l.length ≤ i by omega), List.drop_of_length_le (show m.length ≤ i by omega)]; exact Ev.now _)
    simp only [slices_Equal_int_int.l0]
    rw [if_neg (by omega)]
  | succ d ih =>
    intro i hd hi
    have hlt : i < l.length := by omega
    have hmm : i < m.length := by omega
    have hd1 : l.drop i = l[i] :: l.drop (i + 1) := List.drop_eq_getElem_cons hlt
    have hd2 : m.drop i = m[i] :: m.drop (i + 1) := List.drop_eq_getElem_cons hmm
    by_cases hx : l[i] = m[i]
    · have h := ih (i + 1) (by omega) (by omega)
      have he : decide (l.drop i = m.drop i) = decide (l.drop (i + 1) = m.drop (i + 1)) := by
        rw [Bool.eq_iff_iff, decide_eq_true_eq, decide_eq_true_eq, hd1, hd2, hx]
        exact ⟨fun x => (List.cons.inj x).2, fun x => by rw [x]⟩
      rw [he]
      refine Ev.step (fun k => ?_) h
      simp only [slices_Equal_int_int.l0]
      rw [if_pos (by omega), if_pos (by omega), if_pos (by omega), if_pos (by omega), rd_nat l i hlt, rd_nat m i hmm, if_pos hx, w64 (by omega) (by omega)]
      rfl
    · rw [decide_eq_false (fun x => hx (by rw [hd1, hd2] at x; exact (List.cons.inj x).1))]
      refine Ev.step (f := fun _ => some false) (fun k => ?_) (Ev.now _)
      simp only [slices_Equal_int_int.l0]
      rw [if_pos (by omega), if_pos (by omega), if_pos (by omega), if_pos (by omega), rd_nat l i hlt, rd_nat m i hmm, if_neg hx]
theorem seq_ev (l m : List Int) (hl : l.length ≤ 1099511627776) : Ev (fun k => slices_Equal_int_int.f k l m) (decide (l = m)) := by
  unfold slices_Equal_int_int.f
  by_cases he : l.length = m.length
  · have := seq0 l m hl he l.length 0 (by omega) (by omega)
    rw [List.drop_zero, List.drop_zero] at this
    exact Ev.congr (fun k => if_pos (by omega)) this
  · rw [decide_eq_false (fun x => he (by rw [x]))]
    exact Ev.congr (f := fun _ => some false) (fun k => if_neg (by omega)) (Ev.now _)
theorem calike_ev (a b : Int) (l m : List Int) (hl : l.length ≤ 1099511627776) : Ev (fun k => config_Alike.f k a l b m) (decide (a = b ∧ l = m)) := by
  unfold config_Alike.f
  by_cases he : a = b
  · rw [show decide (a = b ∧ l = m) = decide (l = m) from by rw [Bool.eq_iff_iff, decide_eq_true_eq, decide_eq_true_eq]; exact ⟨fun x => x.2, fun x => ⟨he, x⟩⟩]
    exact Ev.congr (fun k => if_pos he) (Ev.bind (seq_ev l m hl) (Ev.now _))
  · rw [decide_eq_false (fun x => he x.1)]
    exact Ev.congr (f := fun _ => some false) (fun k => if_neg he) (Ev.now _)
end Go.Proofs.Ytjhijklgpgdlaaa.CfgMath
