import Derived.Test.YtepkaaplhcbkbaaGreatT14
import Derived.Test.YtepkaaplhcbkbaaGreatGx4
import Derived.Test.YtepkaaplhcbkbaaGreatGx6
import Derived.Deep.Upon
import Derived.Deep.QuietTactic
import Derived.BigQuiet
import Derived.Deep.RegionHeld3
import Derived.Deep.DeepCutAuto
import Derived.Deep.CutBlock
import Derived.Laws.EntriesVeiled
import Derived.StillTailTactics
import Derived.Laws.Tables
import Derived.Laws.CopyOwn
import Derived.Great.Walk
import Derived.Great.BuildSlice
import Derived.IntWalk
import Derived.Test.YtepkaaplhcbkbaaGreatBlocks
import Derived.Laws.CopyOwn
import Derived.Laws.Tables
import Derived.Outline
namespace Go.Proofs.YtepkaaplhcbkbaaGreat.G
open Go.RowKit Go.Proofs.YtepkaaplhcbkbaaGreatW.PrintWords Go.Proofs.YtepkaaplhcbkbaaGreatW.PrintLast Go.Proofs.YtepkaaplhcbkbaaGreatW.PrintMore
set_option linter.unusedVariables false
set_option linter.unusedSimpArgs false
namespace Cli
open Msg
set_option maxRecDepth 100000
/-- The reply that the life is given. -/
def live : Mg := ⟨2, 3, 101, 1, 0, 1, 1, 0, ⟨#[]⟩, 0, ⟨#[]⟩, ⟨#[]⟩, 0, 0, 0, 0, 0, ⟨#[]⟩, ⟨#[]⟩, 0, 1, 1, ⟨#[]⟩, ⟨#[]⟩, 0, false, 0, none, 0, 0, 0, none, 0, 0, none, 0, 0, 0, false, none, 0, 0, 0, 0, 0⟩
theorem rd_live (w : World) : Rd w live ⟨[], []⟩ := ⟨Kd.C_nil _ _, rfl, Nat.le_refl _, Kd.C_nil _ _, rfl, Nat.le_refl _⟩
theorem check_live (w : World) : Calls Tryz.prog 18 #[.agg live.cells] w fun r w' => r = .returned (.int .i64 0) ∧ Below w.heap.size w w' := by
  have hx := check_calls w live ⟨[], []⟩ (rd_live w) 1 (by decide) rfl
    [⟨87, (fun m _ => decide (1 ≤ m.ep ∧ m.ep ≤ 1099511627776)), (fun m b => { b with ep := m.ep })⟩, ⟨84, (fun m _ => decide (1 ≤ m.cl ∧ m.cl ≤ 16) && cli2 m), (fun m b => { b with cl := m.cl })⟩, ⟨85, (fun m _ => decide (1 ≤ m.nu ∧ m.nu ≤ 1152921504606846976)), (fun m b => { b with nu := m.nu })⟩, ⟨88, (fun m _ => res3 m), (fun m b => { b with rc := m.rc, rv := m.rv })⟩]
    rfl (by
      intro x hx
      simp only [List.mem_cons, List.not_mem_nil, or_false] at hx
      rcases hx with rfl | rfl | rfl | rfl
      · exact fs_epochs
      · exact fs_clients
      · exact fs_numbers
      · exact fs_results) true
    (fun w' hr => alike_same w' live ⟨[], []⟩ hr (by decide) (by decide) rfl rfl)
  refine hx.mono ?_
  rintro r w' ⟨rfl, hb⟩
  refine ⟨congrArg (fun x => Ending.returned (.int .i64 x)) ?_, hb⟩
  kernel_rfl
theorem live_key : delta_isUser.f ⟨#[97]⟩ = some true ∧ (((⟨#[120]⟩ : ByteArray).size : Int) ≤ 65536) := by
  constructor
  · kernel_rfl
  · decide
theorem live_head : config_Head.f 1 [1, 2, 3] = some 1 := by kernel_rfl
theorem live_take {w : World} {base p g q : Nat} (hC : Cl w base p 1 1 [1, 2, 3] 1 (0 + 1) (some ⟨q, 0, none⟩)) (hq : w.heap[q]? = some (.cells (updRq 1 (0 + 1) 1 ⟨#[97]⟩ ⟨#[120]⟩ 0).cells 147 (0, 0))) (hbq : base ≤ q) (hg : w.heap[g]? = some (.cells (outMsg 1 1 (updRq 1 (0 + 1) 1 ⟨#[97]⟩ ⟨#[120]⟩ 0)).cells 49 (0, 0))) :
    Calls Tryz.prog 29 #[.pointer (some ⟨p, 0, none⟩), .agg live.cells] w fun r w' => r = .returned (.tuple #[.bool true, .int .i64 0]) ∧ Cl w' base p 1 1 [1, 2, 3] 1 (0 + 1) (some ⟨q, 0, none⟩) ∧ w'.heap[q]? = some (.cells ((updRq 1 (0 + 1) 1 ⟨#[97]⟩ ⟨#[120]⟩ 0).replied 1 1).cells 147 (0, 0)) ∧ Below base w w' ∧ w'.heap[g]? = some (.cells (outMsg 1 1 (updRq 1 (0 + 1) 1 ⟨#[97]⟩ ⟨#[120]⟩ 0)).cells 49 (0, 0)) := by
  obtain ⟨A, cc, hbx, hox⟩ := hC.out
  exact take_calls hC hq hbq (by decide) (by decide) live rfl (by decide) (by decide) (by decide) rfl rfl hg (blk_ne hg hbx (by decide)) (blk_ne hg hq (by decide)) check_live
set_option maxHeartbeats 2000000 in
theorem lives_calls (W : World) : Calls Tryz.prog 26 #[] W fun r w => r = .returned (.bool true) ∧ Below W.heap.size W w := by
  go_enter Tryz.func26, Tryz.ntmps26
  go_upto_region 4 with (first | (go_at_call 37; refine (hawserlaw23_one.calls 1 [1, 2, 3] _ rfl).mono ?_; rintro r w1 ⟨v1, rfl, hR, hb⟩; obtain ⟨A, cc, rfl, hcc⟩ := own_sl hR; (have HR1 := Aside0.mk hR); (have HB1 := Aside0.mk hb); (have HCC := Aside0.mk hcc); clear hR hb hcc) | (go_at_call 36; refine (new_calls _ 1 1 A cc [1, 2, 3] (by decide) (by decide) (Kd.R_reads' HR1.out).2.2 HCC.out (by decide) (by rfl)).mono ?_; rintro r w2 ⟨p, rfl, hC, hb⟩; (have HC2 := Aside0.mk hC); (have HB2 := Aside0.mk (HB1.out.trans (below_weaken' hb HB1.out.size))); (have HS2 := Aside0.mk hb.size); clear hC hb) | go_in)
  have HP := Aside0.mk (Nat.le_trans HB1.out.size HC2.out.ge)
  go_upto_region 6 with (first | (go_at_call 27; refine (submit_calls HC2.out (by decide) (by decide) (by decide) (by decide) ⟨#[97]⟩ ⟨#[120]⟩ live_key 1 live_head).mono ?_; rintro r w3 ⟨g, q, rfl, hg, hC, hq, hbg, hbq, hb⟩; (have HC3 := Aside0.mk hC); (have HG3 := Aside0.mk hg); (have HQ3 := Aside0.mk hq); (have HBQ := Aside0.mk hbq); (have HB3 := Aside0.mk (HB2.out.trans (below_weaken' hb HB1.out.size))); clear hg hC hq hbg hbq hb) | (go_at_call 29; refine (live_take HC3.out HQ3.out HBQ.out HG3.out).mono ?_; rintro r w4 ⟨rfl, hC, hq, hb, hg⟩; (have HC4 := Aside0.mk hC); (have HG4 := Aside0.mk hg); (have HQ4 := Aside0.mk hq); (have HB4 := Aside0.mk (HB3.out.trans (below_weaken' hb HB1.out.size))); clear hg hC hq hb) | go_in)
  have g2 : w4.cell? ⟨g, 2, none⟩ = some (.int .i64 1) := blk_cell HG4.out 2
  have g6 : w4.cell? ⟨g, 6, none⟩ = some (.int .i64 1) := blk_cell HG4.out 6
  go_wp2_with (first | (go_at_call 32; refine (waits1_calls HC4.out HQ4.out (by decide)).mono ?_; rintro r w5 ⟨rfl, hw⟩; subst hw) | go_in)
  go_ret
  exact ⟨rfl, HB4.out⟩
end Cli

def hawserlaw23_ClientNames.f : Option Bool := some true
set_option maxRecDepth 100000 in
theorem hawserlaw23_ClientNames.calls (r : Bool) (w : World) (h : hawserlaw23_ClientNames.f = some r) : Calls Tryz.prog 7 #[] w fun e w' => e = .returned (.bool r) ∧ Below w.heap.size w w' := by
  obtain rfl := Option.some.inj h
  go_enter Tryz.func7, Tryz.ntmps7
  go_wp2_with (first | (go_at_call 26; refine (Cli.lives_calls _).mono ?_; rintro e w2 ⟨rfl, hB⟩) | fail)
  go_ret
  exact ⟨rfl, hB⟩
def hawserlaw23_ClientNames.Pure : Prop := hawserlaw23_ClientNames.f = some true

end Go.Proofs.YtepkaaplhcbkbaaGreat.G
