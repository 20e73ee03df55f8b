import Derived.Test.YtepkaaplhcbkbaaGreatT10
import Derived.Test.YtepkaaplhcbkbaaGreatGx2
import Derived.Test.YtepkaaplhcbkbaaGreatGx4
import Derived.Test.YtepkaaplhcbkbaaGreatGx6
import Derived.Deep.Upon
import Derived.Deep.QuietTactic
import Derived.BigQuiet
import Derived.Deep.RegionHeld3
import Derived.Deep.DeepCutAuto
import Derived.Deep.CutBlock
import Derived.Laws.EntriesVeiled
import Derived.StillTailTactics
import Derived.Laws.Tables
import Derived.Laws.CopyOwn
import Derived.IntWalk
import Derived.Test.YtepkaaplhcbkbaaGreatBlocks
import Derived.Laws.CopyOwn
import Derived.Laws.Tables
import Derived.Outline
namespace Go.Proofs.YtepkaaplhcbkbaaGreat.G
open Go.RowKit Go.Proofs.YtepkaaplhcbkbaaGreatW.PrintWords Go.Proofs.YtepkaaplhcbkbaaGreatW.PrintLast Go.Proofs.YtepkaaplhcbkbaaGreatW.PrintMore
set_option linter.unusedVariables false
set_option linter.unusedSimpArgs false
namespace Cli
open Msg
set_option maxRecDepth 100000 in
theorem checkPut_calls (W : World) (key val : ByteArray) (hk : delta_isUser.f key = some true) (hv : (val.size : Int) ≤ 65536) : Calls Tryz.prog 66 #[.agg #[.int .i64 1, .string key, .string val, .int .i64 0]] W fun r w => r = .returned (.int .i64 0) ∧ Below W.heap.size W w := by
  have b1 : decide (65536 < (val.size : Int)) = false := decide_eq_false (by omega)
  have HK := Aside0.mk hk
  have HW : Aside0 (delta_within.f 0 0 1152921504606846976 = some true) := ⟨by decide⟩
  have HO := Aside0.mk (blk_new W (.cells #[.int .i64 1, .string key, .string val, .int .i64 0] 32))
  have HB := Aside0.mk (below_alloc (Below.refl W.heap.size W) (.cells #[.int .i64 1, .string key, .string val, .int .i64 0] 32))
  clear hk hv
  go_enter Tryz.func66, Tryz.ntmps66
  go_upto_region 1 with fail
  generalize W.alloc (.cells #[.int .i64 1, .string key, .string val, .int .i64 0] 32) = w1 at HO HB ⊢
  have o0 : w1.cell? ⟨W.heap.size, 0, none⟩ = some (.int .i64 1) := blk_cell HO.out 0
  have o1 : w1.cell? ⟨W.heap.size, 1, none⟩ = some (.string key) := blk_cell HO.out 1
  go_wp2_with (first | (go_at_call 133; refine (delta_isUser.calls _ true _ HK.out).mono ?_; rintro r w2 ⟨rfl, hd⟩; (have HO2 := Aside0.mk (blk_below HO.out hd.below)); (have HB2 := Aside0.mk (HB.out.trans (below_weaken' hd.below HB.out.size))); (have p0 : w2.cell? ⟨W.heap.size, 0, none⟩ = some (.int .i64 1) := blk_cell HO2.out 0); (have p2 : w2.cell? ⟨W.heap.size, 2, none⟩ = some (.string val) := blk_cell HO2.out 2); (have p3 : w2.cell? ⟨W.heap.size, 3, none⟩ = some (.int .i64 0) := blk_cell HO2.out 3); clear hd) | (go_at_call 134; refine (delta_within.calls _ _ _ true _ HW.out).mono ?_; rintro r w3 ⟨rfl, hd⟩; (have HO3 := Aside0.mk (blk_below HO2.out hd.below)); (have HB3 := Aside0.mk (HB2.out.trans (below_weaken' hd.below HB2.out.size))); (have t0 : w3.cell? ⟨W.heap.size, 0, none⟩ = some (.int .i64 1) := blk_cell HO3.out 0); (have t3 : w3.cell? ⟨W.heap.size, 3, none⟩ = some (.int .i64 0) := blk_cell HO3.out 3); clear hd) | go_in)
  go_ret
  exact ⟨rfl, HB3.out⟩
end Cli

end Go.Proofs.YtepkaaplhcbkbaaGreat.G
