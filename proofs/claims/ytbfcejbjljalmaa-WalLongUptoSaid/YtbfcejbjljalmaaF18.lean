import Derived.Test.YtbfcejbjljalmaaF17
import Derived.Maps.OwnOps
import Derived.WideMake
import Derived.Laws.IdiomRangeMap
import Derived.Maps.AppendAt
import Derived.Deep.RegionLaw
import Derived.ArgAppend
import Derived.RangeFuncNested
import Derived.RangeFuncBound
import Derived.RangeFuncCalls
import Derived.RangeFuncLeaves
import Derived.RangeFuncBox
import Derived.RangeFuncFrom
import Derived.OwnWalkIn
import Derived.TacticsInMore
import Derived.LoopNIn
import Derived.LoopIn
import Derived.Deep.Upon
import Derived.Deep.QuietTactic
import Derived.BigQuiet
import Derived.Deep.RegionHeld3
import Derived.Deep.DeepCutAuto
import Derived.Deep.CutBlock
import Derived.Laws.EntriesVeiled
import Derived.StillTailTactics
import Derived.Laws.Tables
import Derived.Laws.CopyOwn
import Derived.IntWalk
import Derived.Test.YtbfcejbjljalmaaBlocks
import Derived.Laws.CopyOwn
import Derived.Laws.Tables
import Derived.Outline
namespace Go.Proofs.Ytbfcejbjljalmaa.P
open Go.RowKit Go.Proofs.YtbfcejbjljalmaaW.PrintWords Go.Proofs.YtbfcejbjljalmaaW.PrintLast Go.Proofs.YtbfcejbjljalmaaW.PrintMore
set_option linter.unusedVariables false
set_option linter.unusedSimpArgs false
namespace Wl
open Go.Proofs.Ytbfcejbjljalmaa.Blocks Frm
set_option maxRecDepth 100000
theorem lasting_calls {W : World} {dp lp : Nat} {nm : ByteArray} {th : Bool} {rv : Value} {las : Int} (hl : W.heap[lp]? = some (.cells (lcells dp nm th rv las) 63 (0, 0))) : Calls Try.prog 15 #[.pointer (some ⟨lp, 0, none⟩)] W fun e w => e = .returned (.int .i64 las) ∧ w = W := by
  have l4 : W.cell? ⟨lp, 4, none⟩ = some (.int .i64 las) := blk_cell hl 4
  clear hl
  go_enter Try.func15, Try.ntmps15
  go_wp2
  go_ret
  exact ⟨rfl, rfl⟩
set_option maxHeartbeats 2000000 in
theorem wsync_calls {W : World} {B R dp mp lp bv : Nat} {room used acts las : Int} {la sv rv : Value} {ad : Addr} {c : Nat} {ss rs : List Value} {zs : List Int} (h : Ds W B dp mp room used acts la sv ss #[fe (.slice (some ad) zs.length c)] 1) (hv : W.ownsRow bv 5 1 (.slice (some ad) zs.length c) zs.length (nums .u8 zs)) (hl : W.heap[lp]? = some (.cells (lcells dp ⟨#[97]⟩ true rv las) 63 (0, 0))) (hw : W.ownsRow R 29 1 rv rs.length rs) (h0 : 0 ≤ acts) (h1 : acts ≤ 1000000) (hB0 : B ≤ W.heap.size) (hBl : B ≤ lp) (hz : zs.length ≤ 1000) (hne : las ≠ rs.length) :
    Calls Try.prog 10 #[.pointer (some ⟨lp, 0, none⟩)] W fun e w => e = .returned (.int .i64 0) ∧ w.heap[lp]? = some (.cells (lcells dp ⟨#[97]⟩ true rv rs.length) 63 (0, 0)) ∧ Below B W w := by
  obtain ⟨Ar, cr, rfl, _⟩ := own_form hw
  have hq : (las == (rs.length : Int)) = false := by simpa using hne
  have HD := Aside0.mk h
  have HV := Aside0.mk hv
  have HL := Aside0.mk hl
  have HN := Aside0.mk (And.intro h0 (And.intro h1 (And.intro hB0 (And.intro hBl hz))))
  have l3 : W.cell? ⟨lp, 3, none⟩ = some (.slice Ar rs.length cr) := blk_cell hl 3
  have l4 : W.cell? ⟨lp, 4, none⟩ = some (.int .i64 las) := blk_cell hl 4
  clear h hv hl hw h0 h1 hB0 hBl hz hne
  go_enter Try.func10, Try.ntmps10
  go_upto_region 2 with (first | (go_at_call 31; refine (state_calls HL.out).mono ?_; rintro e w2 ⟨rfl, hw⟩; (have hw_ := hw.symm); clear hw; subst hw_) | fail)
  go_quiet (fail)
  have hdn : Below W.heap.size W (W.drewN nq) := Drawn0.below ⟨nq, rfl⟩
  have HD2 := Aside0.mk (HD.out.below hdn)
  have HV2 := Aside0.mk (own_below HV.out hdn)
  have HL2 := Aside0.mk (blk_below HL.out hdn)
  have HB2 := Aside0.mk (below_w hdn HN.out.2.2.1)
  have HS2 := Aside0.mk (Nat.le_trans HN.out.2.2.1 hdn.size)
  clear hdn HD HV HL l3 l4
  generalize W.drewN nq = w2 at HD2 HV2 HL2 HB2 HS2 ⊢
  have l0 : w2.cell? ⟨lp, 0, none⟩ = some (.pointer (some ⟨dp, 0, none⟩)) := blk_cell HL2.out 0
  have hb3 := below_alloc (Below.refl w2.heap.size w2) (.cells #[.func (.func 30) #[.pointer (some ⟨dp, 0, none⟩)] #[]] 34)
  have HK := Aside0.mk (blk_cell (blk_new w2 (.cells #[.func (.func 30) #[.pointer (some ⟨dp, 0, none⟩)] #[]] 34)) 0)
  have HSY := Aside0.mk (sync_calls (HD2.out.below hb3) (own_below HV2.out hb3) HN.out.1 (by have := HN.out.2.1; omega) (Nat.le_trans HS2.out hb3.size) (by have := HN.out.2.2.2.2; omega))
  have HL3 := Aside0.mk (blk_below HL2.out hb3)
  have HD3 := Aside0.mk (HD2.out.below hb3)
  have HB3 := Aside0.mk (HB2.out.trans (below_w hb3 HS2.out))
  clear hb3
  have HDO := Aside0.mk (do1_calls (.pointer (some ⟨lp, 0, none⟩)) w2.heap.size 1 30 #[.pointer (some ⟨dp, 0, none⟩)] #[] HK.out (fun args w => by kernel_rfl) HSY.out)
  go_wp2_with (first | (go_at_call 37; refine HDO.out.mono ?_; rintro e w4 ⟨rfl, la', hd, hb, hf⟩; (have HL4 := Aside0.mk (hf.at HL3.out (HD3.out.ne HL3.out (by decide)).1 (HD3.out.ne HL3.out (by decide)).2 (by decide))); (have HB4 := Aside0.mk (HB3.out.trans hb)); (have m3 : w4.cell? ⟨lp, 3, none⟩ = some (.slice Ar rs.length cr) := blk_cell HL4.out 3); (have m4 : w4.cell? ⟨lp, 4, none⟩ = some (.int .i64 las) := blk_cell HL4.out 4); (have f4 : w4.frozen? ⟨lp, 4, none⟩ = false := blk_frozen HL4.out 4); clear hd hb hf) | fail)
  go_ret
  exact ⟨rfl, blk_put HL4.out 4 _ rfl, HB4.out.setCell (p := ⟨lp, 4, none⟩) HN.out.2.2.2.1 _⟩
end Wl

end Go.Proofs.Ytbfcejbjljalmaa.P
