import Derived.Test.YtepkaaplhcbkbaaGreatT15
import Derived.Test.YtepkaaplhcbkbaaGreatGx4
import Derived.Test.YtepkaaplhcbkbaaGreatGx6
import Derived.Deep.Upon
import Derived.Deep.QuietTactic
import Derived.BigQuiet
import Derived.Deep.RegionHeld3
import Derived.Deep.DeepCutAuto
import Derived.Deep.CutBlock
import Derived.Laws.EntriesVeiled
import Derived.StillTailTactics
import Derived.Laws.Tables
import Derived.Laws.CopyOwn
import Derived.Great.Walk
import Derived.Great.BuildSlice
import Derived.Deep.MidRow
import Derived.IntWalk
import Derived.Test.YtepkaaplhcbkbaaGreatBlocks
import Derived.Laws.CopyOwn
import Derived.Laws.Tables
import Derived.Outline
namespace Go.Proofs.YtepkaaplhcbkbaaGreat.G
open Go.RowKit Go.Proofs.YtepkaaplhcbkbaaGreatW.PrintWords Go.Proofs.YtepkaaplhcbkbaaGreatW.PrintLast Go.Proofs.YtepkaaplhcbkbaaGreatW.PrintMore
set_option linter.unusedVariables false
set_option linter.unusedSimpArgs false
namespace Cli
open Msg
set_option maxRecDepth 100000
/-- A client that no call made: nil, or all zeros. -/
def Dead (W : World) (v : Value) : Prop := v = .pointer none ∨ ∃ z, v = .pointer (some ⟨z, 0, none⟩) ∧ W.cell? ⟨z, 0, none⟩ = some (.int .i64 0)
theorem Dead.below {W W' : World} {v : Value} (h : Dead W v) (hB : Below W.heap.size W W') : Dead W' v := by
  rcases h with h | ⟨z, h, hz⟩
  · exact .inl h
  · refine .inr ⟨z, h, ?_⟩
    have := World.block_lt_of_cell? W ⟨z, 0, none⟩ hz
    unfold World.cell? at hz ⊢
    rw [hB.block z this]
    exact hz
theorem is_dead {W : World} {v : Value} (h : Dead W v) : Calls Tryz.prog 70 #[v] W fun r w => r = .returned (.bool false) ∧ w = W := by
  rcases h with rfl | ⟨z, rfl, hz⟩
  · go_enter Tryz.func70, Tryz.ntmps70
    go_wp2
    go_ret
    exact ⟨rfl, rfl⟩
  · go_enter Tryz.func70, Tryz.ntmps70
    go_wp2
    go_ret
    exact ⟨rfl, rfl⟩
theorem waits_dead {W : World} {v : Value} (h : Dead W v) : Calls Tryz.prog 32 #[v] W fun r w => r = .returned (.bool false) ∧ w = W := by
  have HI := Aside0.mk (is_dead h)
  clear h
  go_enter Tryz.func32, Tryz.ntmps32
  go_wp2_with (first | (go_at_call 70; refine HI.out.mono ?_; rintro r w1 ⟨rfl, hw⟩; subst hw) | fail)
  go_ret
  exact ⟨rfl, rfl⟩
theorem free_dead {W : World} {v : Value} (h : Dead W v) : Calls Tryz.prog 65 #[v] W fun r w => r = .returned (.int .i64 2) ∧ w = W := by
  have HI := Aside0.mk (is_dead h)
  clear h
  go_enter Tryz.func65, Tryz.ntmps65
  go_wp2_with (first | (go_at_call 70; refine HI.out.mono ?_; rintro r w1 ⟨rfl, hw⟩; subst hw) | fail)
  go_ret
  exact ⟨rfl, rfl⟩
theorem submit_dead {W : World} {v : Value} (h : Dead W v) (u : Array Value) : Calls Tryz.prog 27 #[v, .agg u] W fun r w => r = .returned (.tuple #[.slice none 0 0, .int .i64 2]) ∧ Below W.heap.size W w := by
  have HI := Aside0.mk (fun w (hw : w = W.alloc (.cells u 32)) => free_dead (hw ▸ h.below (below_alloc (Below.refl _ _) _) : Dead w v))
  clear h
  go_enter Tryz.func27, Tryz.ntmps27
  go_wp2_with (first | (go_at_call 65; refine (HI.out _ rfl).mono ?_; rintro r w1 ⟨rfl, hw⟩; subst hw) | fail)
  go_ret2
  exact ⟨rfl, below_alloc (Below.refl _ _) _⟩
theorem read_dead {W : World} {v : Value} (h : Dead W v) (x y : Value) : Calls Tryz.prog 28 #[v, x, y] W fun r w => r = .returned (.tuple #[.slice none 0 0, .int .i64 2]) ∧ w = W := by
  have HI := Aside0.mk (free_dead h)
  clear h
  go_enter Tryz.func28, Tryz.ntmps28
  go_wp2_with (first | (go_at_call 65; refine HI.out.mono ?_; rintro r w1 ⟨rfl, hw⟩; subst hw) | fail)
  go_ret2
  exact ⟨rfl, rfl⟩
theorem take_dead {W : World} {v : Value} (h : Dead W v) (u : Array Value) : Calls Tryz.prog 29 #[v, .agg u] W fun r w => r = .returned (.tuple #[.bool false, .int .i64 2]) ∧ Below W.heap.size W w := by
  have HI := Aside0.mk (fun w (hw : w = W.alloc (.cells u 49)) => is_dead (hw ▸ h.below (below_alloc (Below.refl _ _) _) : Dead w v))
  clear h
  go_enter Tryz.func29, Tryz.ntmps29
  go_wp2_with (first | (go_at_call 70; refine (HI.out _ rfl).mono ?_; rintro r w1 ⟨rfl, hw⟩; subst hw) | fail)
  go_ret2
  exact ⟨rfl, below_alloc (Below.refl _ _) _⟩
theorem retry_dead {W : World} {v : Value} (h : Dead W v) : Calls Tryz.prog 31 #[v] W fun r w => r = .returned (.slice none 0 0) ∧ w = W := by
  have HI := Aside0.mk (waits_dead h)
  clear h
  go_enter Tryz.func31, Tryz.ntmps31
  go_wp2_with (first | (go_at_call 32; refine HI.out.mono ?_; rintro r w1 ⟨rfl, hw⟩; subst hw) | fail)
  go_ret
  exact ⟨rfl, rfl⟩
theorem epoch_dead {W : World} {v : Value} (h : Dead W v) : Calls Tryz.prog 33 #[v] W fun r w => r = .returned (.int .i64 0) ∧ w = W := by
  have HI := Aside0.mk (is_dead h)
  clear h
  go_enter Tryz.func33, Tryz.ntmps33
  go_wp2_with (first | (go_at_call 70; refine HI.out.mono ?_; rintro r w1 ⟨rfl, hw⟩; subst hw) | fail)
  go_ret
  exact ⟨rfl, rfl⟩
theorem config_dead {W : World} {v : Value} (h : Dead W v) : Calls Tryz.prog 34 #[v] W fun r w => r = .returned (.agg #[.int .i64 0, .slice none 0 0]) ∧ Below W.heap.size W w := by
  have HI := Aside0.mk (fun w (hw : w = W.alloc (.cells #[.int .i64 0, .slice none 0 0] 41)) => is_dead (hw ▸ h.below (below_alloc (Below.refl _ _) _) : Dead w v))
  have HZ := Aside0.mk (blk_new W (.cells #[.int .i64 0, .slice none 0 0] 41))
  have HIC : Aside0 ((Tryz.prog.info? 41).map (·.size) = some 2) := ⟨by kernel_rfl⟩
  have HU := Aside0.mk Tryz.underlying41
  clear h
  go_enter Tryz.func34, Tryz.ntmps34
  go_wp2_with (first | (go_at_call 70; refine (HI.out _ rfl).mono ?_; rintro r w1 ⟨rfl, hw⟩; subst hw) | ((with_reducible refine wpList_store_row rfl 41 (.tmp 2) (.tmp 6) rfl W.heap.size #[.int .i64 0, .slice none 0 0] ?d1 ?d2 41 #[.int .i64 0, .slice none 0 0] ?c1 ?c2 ?c3 ?c4 ?_); (case d1 => rfl); (case d2 => rfl); (case c1 => exact HZ.out); (case c2 => exact HIC.out); (case c3 => rfl); (case c4 => kernel_rfl)) | fail)
  refine bodyPost_ret (results_cell1 (P := Tryz.prog) rfl _ _ W.heap.size 41 #[.int .i64 0, .slice none 0 0] (0, 0) _ rfl (setRow_heap _ _ _ _ 41 (0, 0) HZ.out) HU.out rfl HIC.out) rfl ?_
  exact ⟨rfl, below_setRow (below_alloc (Below.refl _ _) _) (Nat.le_refl _) _⟩
end Cli

end Go.Proofs.YtepkaaplhcbkbaaGreat.G
