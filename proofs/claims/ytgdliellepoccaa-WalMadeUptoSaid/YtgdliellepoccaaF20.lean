import Derived.Test.YtgdliellepoccaaF19
import Derived.Maps.OwnOps
import Derived.WideMake
import Derived.Laws.IdiomRangeMap
import Derived.Maps.AppendAt
import Derived.Deep.RegionLaw
import Derived.ArgAppend
import Derived.RangeFuncNested
import Derived.RangeFuncBound
import Derived.RangeFuncCalls
import Derived.RangeFuncLeaves
import Derived.RangeFuncBox
import Derived.RangeFuncFrom
import Derived.OwnWalkIn
import Derived.TacticsInMore
import Derived.LoopNIn
import Derived.LoopIn
import Derived.Deep.Upon
import Derived.Deep.QuietTactic
import Derived.BigQuiet
import Derived.Deep.RegionHeld3
import Derived.Deep.DeepCutAuto
import Derived.Deep.CutBlock
import Derived.Laws.EntriesVeiled
import Derived.StillTailTactics
import Derived.Laws.Tables
import Derived.Laws.CopyOwn
import Derived.IntWalk
import Derived.Test.YtgdliellepoccaaBlocks
import Derived.Laws.CopyOwn
import Derived.Laws.Tables
import Derived.Outline
namespace Go.Proofs.Ytgdliellepoccaa.G
open Go.RowKit Go.Proofs.YtgdliellepoccaaW.PrintWords Go.Proofs.YtgdliellepoccaaW.PrintLast Go.Proofs.YtgdliellepoccaaW.PrintMore
set_option linter.unusedVariables false
set_option linter.unusedSimpArgs false
namespace Wl
set_option maxRecDepth 100000
/-- A log that no call made: nil, or all zeros. -/
def DeadL (W : World) (v : Value) : Prop := v = .pointer none ∨ ∃ z, v = .pointer (some ⟨z, 0, none⟩) ∧ W.cell? ⟨z, 0, none⟩ = some (.pointer none) ∧ W.cell? ⟨z, 3, none⟩ = some (.slice none 0 0) ∧ W.cell? ⟨z, 4, none⟩ = some (.int .i64 0) ∧ W.cell? ⟨z, 5, none⟩ = some (.int .i64 0)
theorem cell_below' {W W' : World} {b o : Nat} {v : Value} (hz : W.cell? ⟨b, o, none⟩ = some v) (hB : Below W.heap.size W W') : W'.cell? ⟨b, o, none⟩ = some v := by
  have := World.block_lt_of_cell? W ⟨b, o, none⟩ hz
  unfold World.cell? at hz ⊢
  rw [hB.block b this]
  exact hz
theorem DeadL.below {W W' : World} {v : Value} (h : DeadL W v) (hB : Below W.heap.size W W') : DeadL W' v := by
  rcases h with h | ⟨z, h, h0, h3, h4, h5⟩
  · exact .inl h
  · exact .inr ⟨z, h, cell_below' h0 hB, cell_below' h3 hB, cell_below' h4 hB, cell_below' h5 hB⟩
theorem state_dead {W : World} {v : Value} (h : DeadL W v) : Calls Try.prog 19 #[v] W fun r w => r = .returned (.int .i64 2) ∧ w = W := by
  rcases h with rfl | ⟨z, rfl, h0, h3, h4, h5⟩
  · go_enter Try.func19, Try.ntmps19
    go_wp2
    go_ret
    exact ⟨rfl, rfl⟩
  · go_enter Try.func19, Try.ntmps19
    go_wp2
    go_ret
    exact ⟨rfl, rfl⟩
theorem append_dead {W : World} {v : Value} (h : DeadL W v) (x : Value) : Calls Try.prog 6 #[v, x] W fun r w => r = .returned (.tuple #[.int .i64 0, .int .i64 2]) ∧ Below W.heap.size W w := by
  obtain ⟨p, rfl⟩ : ∃ p, v = .pointer p := by rcases h with h | ⟨z, h, _⟩ <;> exact ⟨_, h⟩
  have HI := Aside0.mk (state_dead (h.below (below_alloc (Below.refl W.heap.size W) (.cells #[.pointer p] 27))))
  have HB := Aside0.mk (below_alloc (Below.refl W.heap.size W) (.cells #[.pointer p] 27))
  have HN := Aside0.mk (blk_cell (blk_new W (.cells #[.pointer p] 27)) 0)
  clear h
  go_enter Try.func6, Try.ntmps6
  go_upto_region 1 with fail
  generalize W.alloc (.cells #[.pointer p] 27) = w1 at HI HB HN ⊢
  have b0 : w1.cell? ⟨W.heap.size, 0, none⟩ = some (.pointer p) := HN.out
  go_wp2_with (first | (go_at_call 19; refine HI.out.mono ?_; rintro r w2 ⟨rfl, hw⟩; subst hw) | fail)
  go_ret2
  exact ⟨rfl, HB.out⟩
theorem record_dead {W : World} {v : Value} (h : DeadL W v) (x : Value) : Calls Try.prog 7 #[v, x] W fun r w => r = .returned (.tuple #[.slice none 0 0, .int .i64 2]) ∧ w = W := by
  rcases h with rfl | ⟨z, rfl, h0, h3, h4, h5⟩
  · go_enter Try.func7, Try.ntmps7
    go_wp2
    go_ret2
    exact ⟨rfl, rfl⟩
  · go_enter Try.func7, Try.ntmps7
    go_wp2
    go_ret2
    exact ⟨rfl, rfl⟩
theorem syncl_dead {W : World} {v : Value} (h : DeadL W v) : Calls Try.prog 8 #[v] W fun r w => r = .returned (.int .i64 2) ∧ Below W.heap.size W w := by
  have HI := Aside0.mk (state_dead h)
  clear h
  go_enter Try.func8, Try.ntmps8
  go_upto_region 2 with (first | (go_at_call 19; refine HI.out.mono ?_; rintro r w1 ⟨rfl, hw⟩; subst hw) | fail)
  go_quiet (fail)
  go_wp2
  go_ret
  exact ⟨rfl, Drawn0.below ⟨nq, rfl⟩⟩
theorem startl_dead {W : World} {v : Value} (h : DeadL W v) (x : Value) : Calls Try.prog 9 #[v, x] W fun r w => r = .returned (.int .i64 2) ∧ Below W.heap.size W w := by
  obtain ⟨p, rfl⟩ : ∃ p, v = .pointer p := by rcases h with h | ⟨z, h, _⟩ <;> exact ⟨_, h⟩
  have HI := Aside0.mk (state_dead (h.below (below_alloc (Below.refl W.heap.size W) (.cells #[.pointer p] 27))))
  have HB := Aside0.mk (below_alloc (Below.refl W.heap.size W) (.cells #[.pointer p] 27))
  have HN := Aside0.mk (blk_cell (blk_new W (.cells #[.pointer p] 27)) 0)
  clear h
  go_enter Try.func9, Try.ntmps9
  go_upto_region 1 with fail
  generalize W.alloc (.cells #[.pointer p] 27) = w1 at HI HB HN ⊢
  have b0 : w1.cell? ⟨W.heap.size, 0, none⟩ = some (.pointer p) := HN.out
  go_wp2_with (first | (go_at_call 19; refine HI.out.mono ?_; rintro r w2 ⟨rfl, hw⟩; subst hw) | fail)
  go_ret
  exact ⟨rfl, HB.out⟩
theorem closel_dead {W : World} {v : Value} (h : DeadL W v) : Calls Try.prog 10 #[v] W fun r w => r = .returned (.int .i64 2) ∧ w = W := by
  have HI := Aside0.mk (state_dead h)
  clear h
  go_enter Try.func10, Try.ntmps10
  go_wp2_with (first | (go_at_call 19; refine HI.out.mono ?_; rintro r w1 ⟨rfl, hw⟩; subst hw) | fail)
  go_ret
  exact ⟨rfl, rfl⟩
theorem lenl_dead {W : World} {v : Value} (h : DeadL W v) : Calls Try.prog 11 #[v] W fun r w => r = .returned (.int .i64 0) ∧ w = W := by
  rcases h with rfl | ⟨z, rfl, h0, h3, h4, h5⟩
  · go_enter Try.func11, Try.ntmps11
    go_wp2
    go_ret
    exact ⟨rfl, rfl⟩
  · go_enter Try.func11, Try.ntmps11
    go_wp2
    go_ret
    exact ⟨rfl, rfl⟩
theorem lastingl_dead {W : World} {v : Value} (h : DeadL W v) : Calls Try.prog 12 #[v] W fun r w => r = .returned (.int .i64 0) ∧ w = W := by
  rcases h with rfl | ⟨z, rfl, h0, h3, h4, h5⟩
  · go_enter Try.func12, Try.ntmps12
    go_wp2
    go_ret
    exact ⟨rfl, rfl⟩
  · go_enter Try.func12, Try.ntmps12
    go_wp2
    go_ret
    exact ⟨rfl, rfl⟩
theorem tornl_dead {W : World} {v : Value} (h : DeadL W v) : Calls Try.prog 13 #[v] W fun r w => r = .returned (.int .i64 0) ∧ w = W := by
  rcases h with rfl | ⟨z, rfl, h0, h3, h4, h5⟩
  · go_enter Try.func13, Try.ntmps13
    go_wp2
    go_ret
    exact ⟨rfl, rfl⟩
  · go_enter Try.func13, Try.ntmps13
    go_wp2
    go_ret
    exact ⟨rfl, rfl⟩
end Wl

end Go.Proofs.Ytgdliellepoccaa.G
