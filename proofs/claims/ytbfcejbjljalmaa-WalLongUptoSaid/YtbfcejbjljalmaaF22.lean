import Derived.Test.YtbfcejbjljalmaaF21
import Derived.Maps.OwnOps
import Derived.WideMake
import Derived.Laws.IdiomRangeMap
import Derived.Maps.AppendAt
import Derived.Deep.RegionLaw
import Derived.ArgAppend
import Derived.RangeFuncNested
import Derived.RangeFuncBound
import Derived.RangeFuncCalls
import Derived.RangeFuncLeaves
import Derived.RangeFuncBox
import Derived.RangeFuncFrom
import Derived.OwnWalkIn
import Derived.TacticsInMore
import Derived.LoopNIn
import Derived.LoopIn
import Derived.Deep.Upon
import Derived.Deep.QuietTactic
import Derived.BigQuiet
import Derived.Deep.RegionHeld3
import Derived.Deep.DeepCutAuto
import Derived.Deep.CutBlock
import Derived.Laws.EntriesVeiled
import Derived.StillTailTactics
import Derived.Laws.Tables
import Derived.Laws.CopyOwn
import Derived.IntWalk
import Derived.Test.YtbfcejbjljalmaaBlocks
import Derived.Laws.CopyOwn
import Derived.Laws.Tables
import Derived.Outline
namespace Go.Proofs.Ytbfcejbjljalmaa.P
open Go.RowKit Go.Proofs.YtbfcejbjljalmaaW.PrintWords Go.Proofs.YtbfcejbjljalmaaW.PrintLast Go.Proofs.YtbfcejbjljalmaaW.PrintMore
set_option linter.unusedVariables false
set_option linter.unusedSimpArgs false
namespace Wl
open Go.Proofs.Ytbfcejbjljalmaa.Blocks Frm
set_option maxRecDepth 100000
set_option maxHeartbeats 1000000 in
/-- The first record of a log of one. -/
theorem record0_calls {W : World} {dp lp R bb : Nat} {nm : ByteArray} {th : Bool} {rv vc : Value} {las : Int} {xs : List Int} (hl : W.heap[lp]? = some (.cells (lcells dp nm th rv las) 63 (0, 0))) (hw : W.ownsRow R 29 1 rv 1 [vc]) (hv : W.ownsRow bb 5 1 vc xs.length (nums .u8 xs)) (hx0 : 0 < xs.length) (hx : xs.length ≤ 1048576) : Calls Try.prog 11 #[.pointer (some ⟨lp, 0, none⟩), .int .i64 0] W fun e w => ∃ u, e = .returned (.tuple #[u, .int .i64 0]) ∧ w.ownsRow W.heap.size 5 1 u xs.length (nums .u8 xs) ∧ Below W.heap.size W w := by
  obtain ⟨g, c, rfl, hg, cur, hc, hj⟩ := row_at hw (by decide)
  obtain ⟨g2, c2, rfl, -⟩ := row_at hv hx0
  have k0 : W.cell? ⟨g, 0, none⟩ = some (.slice (some ⟨g2, 0, none⟩) xs.length c2) := (blk_cell hc 0).trans (hj 0 _ rfl)
  have l3 : W.cell? ⟨lp, 3, none⟩ = some (.slice (some ⟨g, 0, none⟩) 1 c) := blk_cell hl 3
  have l0 : W.cell? ⟨lp, 0, none⟩ = some (.pointer (some ⟨dp, 0, none⟩)) := blk_cell hl 0
  have HC := Aside0.mk (Frm.C_own hv)
  have HN := Aside0.mk (And.intro hx0 hx)
  clear hl hw hv hx0 hx hg hc hj
  go_enter Try.func11, Try.ntmps11
  go_upto_region 3 with fail
  go_upto_region 5 with fail
  go_wp2_with (first
    | (go_at_call 38; with_reducible refine (copied_calls HC.out (by have := HN.out.2; omega) HN.out.1).mono ?_; rintro e w2 ⟨u, rfl, ho, hb⟩)
    | fail)
  go_ret2
  exact ⟨_, rfl, ho, hb⟩
end Wl

end Go.Proofs.Ytbfcejbjljalmaa.P
