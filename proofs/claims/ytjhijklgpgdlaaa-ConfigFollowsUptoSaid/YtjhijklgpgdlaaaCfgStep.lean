/- CfgStep: the document's Without and With. -/
import Derived.Test.YtjhijklgpgdlaaaCfgRef
import Derived.Test.YtjhijklgpgdlaaaGx7
import Derived.Test.YtjhijklgpgdlaaaGx8
namespace Go.Proofs.Ytjhijklgpgdlaaa.CfgMath
open Go.RowKit Go.Proofs.Ytjhijklgpgdlaaa.G Go.Proofs.YtjhijklgpgdlaaaW.PrintWords Go.Proofs.YtjhijklgpgdlaaaW.PrintLast Go.Proofs.YtjhijklgpgdlaaaW.PrintMore
set_option linter.unusedVariables false
set_option linter.unusedSimpArgs false
theorem rwithout_ev (e : Int) (l : List Int) (n : Int) : Ev (fun k => hawserref16_Without.f k e l n) (wo e l n) := by
  unfold hawserref16_Without.f
  refine Ev.bind (rcheck_ev e l) ?_
  by_cases hc : chk e l = 0
  · obtain ⟨h1, h2, h3, h4, h5⟩ := chk_zero.1 hc
    have h0 := pos_nonneg l n
    have hle := pos_le l n
    refine Ev.congr (fun k => if_pos hc) (Ev.bind (rplace_ev l n (by omega)) (Ev.congr (f := fun _ => some (wo e l n)) (fun k => ?_) (Ev.now _)))
    unfold wo
    rw [if_neg (show ¬ chk e l ≠ 0 from fun h => h hc)]
    by_cases hp : pos l n = 0
    · rw [if_pos (show pos l n - 1 < 0 by omega), if_pos hp]
    · rw [if_neg (show ¬ pos l n - 1 < 0 by omega), if_neg hp]
      by_cases h1' : l.length = 1
      · rw [if_pos (show (l.length : Int) = 1 by omega), if_pos h1']
      · rw [if_neg (show ¬ (l.length : Int) = 1 by omega), if_neg h1']
        by_cases he : e = 1099511627776
        · rw [if_pos he, if_pos he]
        · rw [if_neg he, if_neg he, if_pos (show pos l n - 1 ≤ (l.length : Int) by omega), if_pos (by rw [List.length_take, List.length_nil]; omega), Option.bind_some, w64 (n := pos l n - 1 + 1) (by omega) (by omega), if_pos (show 0 ≤ pos l n - 1 + 1 by omega), if_pos (show pos l n - 1 + 1 ≤ (l.length : Int) by omega), if_pos (by rw [List.length_append, List.length_take, List.length_drop, List.length_nil]; omega), w64 (n := e + 1) (by omega) (by omega), List.nil_append, show pos l n - 1 + 1 = pos l n by omega]
  · have : wo e l n = (0, [], chk e l) := by unfold wo; rw [if_pos hc]
    rw [this]
    exact Ev.congr (f := fun _ => some (0, [], chk e l)) (fun k => if_neg hc) (Ev.now _)
theorem rwith_ev (e : Int) (l : List Int) (n : Int) : Ev (fun k => hawserref16_With.f k e l n) (wi e l n) := by
  unfold hawserref16_With.f
  refine Ev.bind (rcheck_ev e l) ?_
  by_cases hc : chk e l = 0
  · obtain ⟨h1, h2, h3, h4, h5⟩ := chk_zero.1 hc
    have h0 := pos_nonneg l n
    have j0 : ∀ b, (b = true ↔ (n < 1 ∨ 8 < n ∨ 0 < pos l n)) → Ev (fun k => hawserref16_With.j0 k n b e l) (wi e l n) := by
      intro b hb
      refine Ev.step (f := fun _ => some (wi e l n)) (fun k => ?_) (Ev.now _)
      simp only [hawserref16_With.j0]
      unfold wi
      rw [if_neg (show ¬ chk e l ≠ 0 from fun h => h hc)]
      by_cases hx : n < 1 ∨ 8 < n ∨ 0 < pos l n
      · rw [if_pos (hb.2 hx), if_pos hx]
      · rw [if_neg (fun x => hx (hb.1 x)), if_neg hx]
        by_cases he : e = 1099511627776
        · rw [if_pos he, if_pos he]
        · rw [if_neg he, if_neg he, if_pos (by simp only [List.length_nil]; omega), Option.bind_some, if_pos (by rw [List.nil_append]; omega), w64 (n := e + 1) (by omega) (by omega), List.nil_append]
    refine Ev.congr (fun k => if_pos hc) ?_
    by_cases hn1 : n < 1
    · exact Ev.congr (fun k => if_pos hn1) (j0 true ⟨fun _ => .inl hn1, fun _ => rfl⟩)
    · refine Ev.congr (fun k => if_neg hn1) ?_
      by_cases hn8 : n > 8
      · exact Ev.congr (fun k => if_pos hn8) (j0 true ⟨fun _ => .inr (.inl hn8), fun _ => rfl⟩)
      · refine Ev.congr (fun k => if_neg hn8) (Ev.bind (rplace_ev l n (by omega)) (j0 (decide (pos l n - 1 ≥ 0)) ⟨fun x => .inr (.inr (by have := of_decide_eq_true x; omega)), fun x => decide_eq_true (by omega)⟩))
  · have : wi e l n = (0, [], chk e l) := by unfold wi; rw [if_pos hc]
    rw [this]
    exact Ev.congr (f := fun _ => some (0, [], chk e l)) (fun k => if_neg hc) (Ev.now _)
end Go.Proofs.Ytjhijklgpgdlaaa.CfgMath
