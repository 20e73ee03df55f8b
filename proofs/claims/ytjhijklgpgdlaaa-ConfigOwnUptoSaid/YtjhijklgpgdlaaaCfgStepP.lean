/- CfgStepP: what config.Without and config.With compute. -/
import Derived.Test.YtjhijklgpgdlaaaCfgPlace
import Derived.Test.YtjhijklgpgdlaaaGx6
import Derived.Test.YtjhijklgpgdlaaaGx7
namespace Go.Proofs.Ytjhijklgpgdlaaa.CfgMath
open Go.RowKit Go.Proofs.Ytjhijklgpgdlaaa.G Go.Proofs.YtjhijklgpgdlaaaW.PrintWords Go.Proofs.YtjhijklgpgdlaaaW.PrintLast Go.Proofs.YtjhijklgpgdlaaaW.PrintMore
set_option linter.unusedVariables false
set_option linter.unusedSimpArgs false
theorem without_f (e : Int) (l : List Int) (n : Int) : config_Without.f e l n = some (wo e l n) := by
  unfold config_Without.f wo
  rw [check_f, Option.bind_some]
  by_cases hc : chk e l = 0
  · obtain ⟨h1, h2, h3, h4, h5⟩ := chk_zero.1 hc
    have h0 := pos_nonneg l n
    have hle := pos_le l n
    rw [if_pos hc, place_f, Option.bind_some, if_pos hc, if_neg (show ¬ chk e l ≠ 0 from fun h => h hc)]
    by_cases hp : pos l n = 0
    · rw [if_pos hp, if_pos hp]
    · rw [if_neg hp, if_neg hp]
      by_cases h1' : l.length = 1
      · rw [if_pos (show (l.length : Int) = 1 by omega), if_pos h1']
      · rw [if_neg (show ¬ (l.length : Int) = 1 by omega), if_neg h1']
        by_cases he : e = 1099511627776
        · rw [if_pos he, if_pos he]
        · rw [if_neg he, if_neg he, w64 (n := pos l n - 1) (by omega) (by omega), if_pos (show 0 ≤ pos l n - 1 by omega), if_pos (show pos l n - 1 ≤ (l.length : Int) by omega), if_pos (show 0 ≤ pos l n by omega), if_pos (show pos l n ≤ (l.length : Int) by omega), w64 (n := e + 1) (by omega) (by omega)]
          unfold slices_Concat_int_int.f
          have hf : ([l.take (pos l n - 1).toNat, l.drop (pos l n).toNat] : List (List Int)).flatten = l.take (pos l n - 1).toNat ++ l.drop (pos l n).toNat := by simp
          rw [hf, if_pos (by rw [List.length_append, List.length_take, List.length_drop]; omega)]
          rfl
  · rw [if_neg hc, if_pos hc]
theorem with_ev (e : Int) (l : List Int) (n : Int) : Ev (fun k => config_With.f k e l n) (wi e l n) := by
  by_cases hc : chk e l = 0
  · obtain ⟨h1, h2, h3, h4, h5⟩ := chk_zero.1 hc
    have h0 := pos_nonneg l n
    have j0 : ∀ b, (b = true ↔ (n < 1 ∨ 8 < n ∨ 0 < pos l n)) → Ev (fun k => config_With.j0 k n b e l) (wi e l n) := by
      intro b hb
      refine Ev.step (f := fun _ => some (wi e l n)) (fun k => ?_) (Ev.now _)
      simp only [config_With.j0]
      unfold wi
      rw [if_neg (show ¬ chk e l ≠ 0 from fun h => h hc)]
      by_cases hx : n < 1 ∨ 8 < n ∨ 0 < pos l n
      · rw [if_pos (hb.2 hx), if_pos hx]
      · rw [if_neg (fun x => hx (hb.1 x)), if_neg hx]
        by_cases he : e = 1099511627776
        · rw [if_pos he, if_pos he]
        · rw [if_neg he, if_neg he, w64 (n := e + 1) (by omega) (by omega)]
          unfold slices_Concat_int_int.f
          have hf : ([l, [n]] : List (List Int)).flatten = l ++ [n] := by simp
          rw [hf, if_pos (by rw [List.length_append]; simp only [List.length_cons, List.length_nil]; omega)]
          rfl
    by_cases hn1 : n < 1
    · refine Ev.congr (fun k => ?_) (j0 true ⟨fun _ => .inl hn1, fun _ => rfl⟩)
      unfold config_With.f
      rw [check_f, Option.bind_some, if_pos hc, if_pos hn1]
    · by_cases hn8 : n > 8
      · refine Ev.congr (fun k => ?_) (j0 true ⟨fun _ => .inr (.inl hn8), fun _ => rfl⟩)
        unfold config_With.f
        rw [check_f, Option.bind_some, if_pos hc, if_neg hn1, if_pos hn8]
      · refine Ev.congr (fun k => ?_) (j0 (decide (pos l n > 0)) ⟨fun x => .inr (.inr (of_decide_eq_true x)), fun x => decide_eq_true (by omega)⟩)
        unfold config_With.f
        rw [check_f, Option.bind_some, if_pos hc, if_neg hn1, if_neg hn8, place_f, Option.bind_some, if_pos hc]
  · have : wi e l n = (0, [], chk e l) := by unfold wi; rw [if_pos hc]
    rw [this]
    refine Ev.congr (f := fun _ => some (0, [], chk e l)) (fun k => ?_) (Ev.now _)
    unfold config_With.f
    rw [check_f, Option.bind_some, if_neg hc]
theorem wo_len (e : Int) (l : List Int) (n : Int) : (wo e l n).2.1.length ≤ 8 := by
  unfold wo
  split
  · simp
  · rename_i hc
    have := (chk_zero.1 (Classical.not_not.1 hc)).2.2.2.1
    split
    · simp
    · split
      · simp
      · split
        · simp
        · show (l.take (pos l n - 1).toNat ++ l.drop (pos l n).toNat).length ≤ 8
          rename_i hp _ _
          have h0 := pos_nonneg l n
          rw [List.length_append, List.length_take, List.length_drop]; omega
theorem wi_len (e : Int) (l : List Int) (n : Int) : (wi e l n).2.1.length ≤ 9 := by
  unfold wi
  split
  · simp
  · rename_i hc
    have := (chk_zero.1 (Classical.not_not.1 hc)).2.2.2.1
    split
    · simp
    · split
      · simp
      · show (l ++ [n]).length ≤ 9
        rw [List.length_append]; simp only [List.length_cons, List.length_nil]; omega
end Go.Proofs.Ytjhijklgpgdlaaa.CfgMath
