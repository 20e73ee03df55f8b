import Derived.Test.YtmmefnllagbcfaaD1
import Derived.Deep.Upon
import Derived.Deep.QuietTactic
import Derived.Deep.RegionHeld3
import Derived.Deep.DeepCutAuto
import Derived.Deep.CutBlock
import Derived.Laws.EntriesVeiled
import Derived.StillTailTactics
import Derived.Laws.Tables
import Derived.Laws.CopyOwn
import Derived.Great.Walk
import Derived.Great.BuildSlice
import Derived.Deep.MidRow
import Derived.ArgAppend
import Derived.Maps.AppendAt
import Derived.IntWalk
import Derived.Test.YtmmefnllagbcfaaBlocks
import Derived.Laws.CopyOwn
import Derived.Laws.Tables
import Derived.Outline
namespace Go.Proofs.Ytmmefnllagbcfaa.G
open Go.RowKit Go.Proofs.YtmmefnllagbcfaaW.PrintWords Go.Proofs.YtmmefnllagbcfaaW.PrintLast Go.Proofs.YtmmefnllagbcfaaW.PrintMore
set_option linter.unusedVariables false
set_option linter.unusedSimpArgs false
namespace Dsk
set_option maxRecDepth 100000
theorem append_dead {W : World} {v : Value} (h : Dead W v) (s : ByteArray) (x : Value) : Calls Try.prog 41 #[v, .string s, x] W fun r w => r = .returned (.int .i64 2) ∧ Below W.heap.size W w := by
  have HI := Aside0.mk (fun s => there_dead h s)
  clear h
  go_enter Try.func41, Try.ntmps41
  go_wp2_with (first | (go_at_call 49; refine (HI.out _).mono ?_; rintro r w1 ⟨rfl, hb⟩) | fail)
  go_ret
  exact ⟨rfl, hb⟩
theorem cut_dead {W : World} {v : Value} (h : Dead W v) (s : ByteArray) (x : Value) : Calls Try.prog 43 #[v, .string s, x] W fun r w => r = .returned (.int .i64 2) ∧ Below W.heap.size W w := by
  have HI := Aside0.mk (fun s => there_dead h s)
  clear h
  go_enter Try.func43, Try.ntmps43
  go_wp2_with (first | (go_at_call 49; refine (HI.out _).mono ?_; rintro r w1 ⟨rfl, hb⟩) | fail)
  go_ret
  exact ⟨rfl, hb⟩
theorem remove_dead {W : World} {v : Value} (h : Dead W v) (s : ByteArray) : Calls Try.prog 45 #[v, .string s] W fun r w => r = .returned (.int .i64 2) ∧ Below W.heap.size W w := by
  have HI := Aside0.mk (fun s => there_dead h s)
  clear h
  go_enter Try.func45, Try.ntmps45
  go_wp2_with (first | (go_at_call 49; refine (HI.out _).mono ?_; rintro r w1 ⟨rfl, hb⟩) | fail)
  go_ret
  exact ⟨rfl, hb⟩
theorem read_dead {W : World} {v : Value} (h : Dead W v) (s : ByteArray) : Calls Try.prog 15 #[v, .string s] W fun r w => r = .returned (.tuple #[.slice none 0 0, .int .i64 2]) ∧ Below W.heap.size W w := by
  have HI := Aside0.mk (fun s => there_dead h s)
  clear h
  go_enter Try.func15, Try.ntmps15
  go_wp2_with (first | (go_at_call 49; refine (HI.out _).mono ?_; rintro r w1 ⟨rfl, hb⟩) | fail)
  go_ret2
  exact ⟨rfl, hb⟩
theorem size_dead {W : World} {v : Value} (h : Dead W v) (s : ByteArray) : Calls Try.prog 16 #[v, .string s] W fun r w => r = .returned (.tuple #[.int .i64 0, .int .i64 2]) ∧ Below W.heap.size W w := by
  have HI := Aside0.mk (fun s => there_dead h s)
  clear h
  go_enter Try.func16, Try.ntmps16
  go_wp2_with (first | (go_at_call 49; refine (HI.out _).mono ?_; rintro r w1 ⟨rfl, hb⟩) | fail)
  go_ret2
  exact ⟨rfl, hb⟩
theorem rename_dead {W : World} {v : Value} (h : Dead W v) (s y : ByteArray) : Calls Try.prog 44 #[v, .string s, .string y] W fun r w => r = .returned (.int .i64 2) ∧ Below W.heap.size W w := by
  have HI := Aside0.mk (there1_dead (h.below (below_alloc (Below.refl _ _) (.cells #[.string y] 9))) s y W.heap.size (blk_cell (blk_new W _) 0))
  have HB := Aside0.mk (below_alloc (Below.refl W.heap.size W) (.cells #[.string y] 9))
  clear h
  go_enter Try.func44, Try.ntmps44
  go_wp2_with (first | (go_at_call 49; refine HI.out.mono ?_; rintro r w1 ⟨rfl, hb⟩) | fail)
  go_ret
  exact ⟨rfl, HB.out.trans (below_weaken' hb HB.out.size)⟩
end Dsk

end Go.Proofs.Ytmmefnllagbcfaa.G
