import Derived.Test.YtmmefnllagbcfaaD0
import Derived.Deep.Upon
import Derived.Deep.QuietTactic
import Derived.Deep.RegionHeld3
import Derived.Deep.DeepCutAuto
import Derived.Deep.CutBlock
import Derived.Laws.EntriesVeiled
import Derived.StillTailTactics
import Derived.Laws.Tables
import Derived.Laws.CopyOwn
import Derived.Great.Walk
import Derived.Great.BuildSlice
import Derived.Deep.MidRow
import Derived.ArgAppend
import Derived.Maps.AppendAt
import Derived.IntWalk
import Derived.Test.YtmmefnllagbcfaaBlocks
import Derived.Laws.CopyOwn
import Derived.Laws.Tables
import Derived.Outline
namespace Go.Proofs.Ytmmefnllagbcfaa.G
open Go.RowKit Go.Proofs.YtmmefnllagbcfaaW.PrintWords Go.Proofs.YtmmefnllagbcfaaW.PrintLast Go.Proofs.YtmmefnllagbcfaaW.PrintMore
set_option linter.unusedVariables false
set_option linter.unusedSimpArgs false
namespace Dsk
set_option maxRecDepth 100000
theorem info_str : (Try.prog.info? 9).map (fun i => (i.zero, i.size, i.bytes)) = some (some (.string ⟨#[]⟩), 1, 16) := by kernel_rfl
theorem there1_dead {W : World} {v : Value} (h : Dead W v) (s y : ByteArray) (g : Nat) (hy : W.cell? ⟨g, 0, none⟩ = some (.string y)) : Calls Try.prog 49 #[v, .string s, .slice (some ⟨g, 0, none⟩) 1 1] W fun r w => r = .returned (.int .i64 2) ∧ Below W.heap.size W w := by
  have HD := Aside0.mk h
  have HB := Aside0.mk (below_alloc (Below.refl W.heap.size W) (.cells #[.string s] 9))
  have HO := Aside0.mk (own_lit_of (enc := Value.string) W W.heap.size 9 [s] (Nat.le_refl _) (by simp))
  have HR : Aside0 (ReadsOf Value.string ⟨#[]⟩ (W.alloc (.cells #[.string s] 9)) (some ⟨g, 0, none⟩) 1 [y]) := ⟨⟨rfl, by decide, fun _ => ⟨_, rfl, fun j hj => by
    obtain rfl : j = 0 := by omega
    exact (HB.out.cell (p := ⟨g, 0, none⟩) (World.block_lt_of_cell? W _ hy)).trans hy⟩⟩⟩
  have HT := Aside0.mk Try.underlying46
  have HI := Aside0.mk info_str
  clear h hy
  go_enter Try.func49, Try.ntmps49
  go_wp2_with (first | ((with_reducible refine print_append_row_of (w0 := W) Value.string ⟨#[]⟩ W.heap.size rfl (.tmp 10) (.tmp 11) 46 9 (.string ⟨#[]⟩) 16 rfl HT.out HI.out ?_ ?_ ?_ (.slice (some ⟨W.heap.size, 0, none⟩) 1 1) [s] [y] (some ⟨g, 0, none⟩) 1 1 ?_ ?_ ?_ HR.out HB.out ?_ ?_ ?_); (· rfl); (· decide); (· exact fun _ => rfl); (· rfl); (· rfl); (· exact HO.out); (· exact HB.out.size); (· simp); intro v1 w1 hown hb1 hg hat; (have HB1 := Aside0.mk hb1); clear hown hb1 hg hat) | (go_at_call 55; refine (ready_dead (HD.out.below HB1.out) _).mono ?_; rintro r w2 ⟨rfl, hw⟩; subst hw) | fail)
  go_ret
  exact ⟨rfl, HB1.out⟩
end Dsk

end Go.Proofs.Ytmmefnllagbcfaa.G
