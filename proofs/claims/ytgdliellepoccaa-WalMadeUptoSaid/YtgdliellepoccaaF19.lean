import Derived.Test.YtgdliellepoccaaF18
import Derived.Lib.SlBytesConst
import Derived.Maps.OwnOps
import Derived.WideMake
import Derived.Laws.IdiomRangeMap
import Derived.Maps.AppendAt
import Derived.Deep.RegionLaw
import Derived.ArgAppend
import Derived.RangeFuncNested
import Derived.RangeFuncBound
import Derived.RangeFuncCalls
import Derived.RangeFuncLeaves
import Derived.RangeFuncBox
import Derived.RangeFuncFrom
import Derived.OwnWalkIn
import Derived.TacticsInMore
import Derived.LoopNIn
import Derived.LoopIn
import Derived.Deep.Upon
import Derived.Deep.QuietTactic
import Derived.BigQuiet
import Derived.Deep.RegionHeld3
import Derived.Deep.DeepCutAuto
import Derived.Deep.CutBlock
import Derived.Laws.EntriesVeiled
import Derived.StillTailTactics
import Derived.Laws.Tables
import Derived.Laws.CopyOwn
import Derived.IntWalk
import Derived.Test.YtgdliellepoccaaBlocks
import Derived.Laws.CopyOwn
import Derived.Laws.Tables
import Derived.Outline
namespace Go.Proofs.Ytgdliellepoccaa.G
open Go.RowKit Go.Proofs.YtgdliellepoccaaW.PrintWords Go.Proofs.YtgdliellepoccaaW.PrintLast Go.Proofs.YtgdliellepoccaaW.PrintMore
set_option linter.unusedVariables false
set_option linter.unusedSimpArgs false
namespace Wl
open Go.Proofs.Ytgdliellepoccaa.Blocks Frm
set_option maxRecDepth 100000
theorem fenc1 : (fenc 1 [97]).length = 15 ∧ (fenc 1 [98, 99]).length = 16 := ⟨rfl, rfl⟩
theorem name_a : Go.Proofs.Ytgdliellepoccaa.P.wal_isName.f 10 ⟨#[97]⟩ = some true ∧ Go.Proofs.Ytgdliellepoccaa.P.wal_isName.f 10 (⟨#[97]⟩ ++ ⟨#[46, 110]⟩) = some true := by decide +kernel
set_option maxHeartbeats 4000000 in
/-- The document's first example goes so. -/
theorem lives_calls (W : World) : Calls Try.prog 5 #[] W fun r w => r = .returned (.bool true) ∧ Below W.heap.size W w := by
  have hcv := fun (w : World) (C : Array Value) (n c : Nat) => Lib.run_convert_bytes_const (P := Try.prog) w 23 5 C n c Try.underlying23 Try.underlying5
  go_enter Try.func5, Try.ntmps5
  go_upto_region 3 with (first
    | (go_at_call 15; refine (new_calls _ 1000 (by decide) (by decide)).mono ?_; rintro e w1 ⟨dp, mp, la, rfl, hd, hb⟩; (have HD1 := Aside0.mk hd); (have HB1 := Aside0.mk hb); clear hd hb)
    | (go_at_call 14; refine (open0_calls HD1.out ⟨#[97]⟩ 10 (by decide) name_a.1 name_a.2).mono ?_; rintro e w2 ⟨lp, rfl, hl, hlp, hb⟩; (have HD2 := Aside0.mk (HD1.out.below hb)); (have HL2 := Aside0.mk hl); (have HLP := Aside0.mk (Nat.le_trans HB1.out.size hlp)); (have HB2 := Aside0.mk (HB1.out.trans (below_w hb HB1.out.size))); clear hl hlp hb)
    | fail)
  go_upto_region 5 with (first
    | (go_at_call 17; refine (acts_calls HD2.out).mono ?_; rintro e w3 ⟨rfl, hw⟩; (have hw_ := hw.symm); clear hw; subst hw_)
    | fail)
  have hb3 := below_alloc (Below.refl w2.heap.size w2) (.cells (nums .u8 [97]).toArray 5 (1, 2))
  have HD3 := Aside0.mk (HD2.out.below hb3)
  have HL3 := Aside0.mk (blk_below HL2.out hb3)
  have HB3 := Aside0.mk (HB2.out.trans (below_w hb3 HB2.out.size))
  have HX3 := Aside0.mk (heap_alloc_new w2 (.cells (nums .u8 [97]).toArray 5 (1, 2)))
  clear hb3 HD1 HB1 HD2 HL2
  go_upto_region 6 with (first
    | (go_at_call 6; refine (app1_calls (rs := []) (xs := [97]) (R := W.heap.size) HD3.out HL3.out ⟨by simp, .inl ⟨rfl, rfl⟩⟩ ⟨_, HX3.out⟩ (by decide) (by decide) (by decide) (by decide) HB3.out.size HB3.out.size (Nat.le_refl _) HLP.out (by decide) (by decide) (by decide) (by decide) (by decide) (by decide)).mono ?_; rintro e w4 ⟨rfl, v4, sv4, ss4, rv4, rs4, hd, hn, ho, hl, hr, hrn, hb⟩; (have HD4 := Aside0.mk hd); (have HN4 := Aside0.mk hn); (have HO4 := Aside0.mk ho); (have HL4 := Aside0.mk hl); (have HR4 := Aside0.mk hr); (have HRN4 := Aside0.mk (show rs4.length = 1 from hrn)); (have HB4 := Aside0.mk (HB3.out.trans hb)); clear hd hn ho hl hr hrn hb)
    | fail)
  have hb5 := below_alloc (Below.refl w4.heap.size w4) (.cells (nums .u8 [98, 99]).toArray 5 (2, 3))
  have HD5 := Aside0.mk (HD4.out.below hb5)
  have HO5 := Aside0.mk (own_below HO4.out hb5)
  have HL5 := Aside0.mk (blk_below HL4.out hb5)
  have HR5 := Aside0.mk (own_below HR4.out hb5)
  have HB5 := Aside0.mk (HB4.out.trans (below_w hb5 HB4.out.size))
  have HX5 := Aside0.mk (heap_alloc_new w4 (.cells (nums .u8 [98, 99]).toArray 5 (2, 3)))
  clear hb5 HD3 HL3 HB3 HX3 HD4 HO4 HL4 HR4 HB4
  go_upto_region 7 with (first
    | (go_at_call 6; refine (app2_calls (rs := rs4) (xs := [98, 99]) (zs := fenc 1 [97]) HD5.out HO5.out (by decide) HL5.out HR5.out ⟨_, HX5.out⟩ (by decide) (by decide) (by decide) (by decide) HB5.out.size HB5.out.size (Nat.le_refl _) HLP.out (by have := HN4.out; simp at this; omega) (by have := HRN4.out; omega) (by decide) (by decide) (by decide) (by decide)).mono ?_; rintro e w6 ⟨rfl, v6, sv6, ss6, rv6, rs6, hd, hn, ho, hl, hr, hrn, hb⟩; obtain ⟨g6, c6, hv6, _, _⟩ := row_at ho (by decide); (have hv6_ : v6 = .slice (some ⟨g6, 0, none⟩) 31 c6 := hv6); clear hv6; subst hv6_; (have HD6 := Aside0.mk hd); (have HO6 := Aside0.mk ho); (have HL6 := Aside0.mk hl); (have HR6 := Aside0.mk hr); (have HRN6 := Aside0.mk (show rs6.length = 2 by rw [hrn, HRN4.out])); (have HB6 := Aside0.mk (HB5.out.trans hb)); clear hd hn ho hl hr hrn hb)
    | fail)
  clear HD5 HO5 HL5 HR5 HB5 HX5
  have hr4 : (rs4.length : Int) = 1 := by have := HRN4.out; omega
  go_upto_region 8 with (first
    | (go_at_call 18; refine (size1_calls HD6.out).mono ?_; rintro e w7 ⟨rfl, hb⟩; (have HD7 := Aside0.mk (HD6.out.below hb)); (have HO7 := Aside0.mk (own_below HO6.out hb)); (have HL7 := Aside0.mk (blk_below HL6.out hb)); (have HR7 := Aside0.mk (own_below HR6.out hb)); (have HB7 := Aside0.mk (HB6.out.trans (below_w hb HB6.out.size))); clear hb)
    | fail)
  have HNE : Aside0 ((0 : Int) ≠ rs6.length) := ⟨by have := HRN6.out; omega⟩
  have hr6 : (rs6.length : Int) = 2 := by have := HRN6.out; omega
  have HSY := Aside0.mk (wsync_calls (zs := fenc 1 [97] ++ fenc 1 [98, 99]) HD7.out HO7.out HL7.out HR7.out (by decide) (by decide) HB7.out.size HLP.out (by decide) HNE.out)
  clear HD6 HO6 HL6 HR6 HB6
  go_wp2_with (first
    | (go_at_call 8; refine HSY.out.mono ?_; rintro e w8 ⟨rfl, hl, hb⟩; (have HL8 := Aside0.mk hl); (have HB8 := Aside0.mk (HB7.out.trans hb)); clear hl hb)
    | (go_at_call 12; refine (lasting_calls HL7.out).mono ?_; rintro e w9 ⟨rfl, hw⟩; (have hw_ := hw.symm); clear hw; subst hw_)
    | (go_at_call 12; refine (lasting_calls HL8.out).mono ?_; rintro e w9 ⟨rfl, hw⟩; (have hw_ := hw.symm); clear hw; subst hw_)
    | fail)
  go_ret
  exact ⟨rfl, HB8.out⟩
end Wl

end Go.Proofs.Ytgdliellepoccaa.G
