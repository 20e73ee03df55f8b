import Derived.Test.YtbfcejbjljalmaaF10
import Derived.Maps.OwnOps
import Derived.WideMake
import Derived.Laws.IdiomRangeMap
import Derived.Maps.AppendAt
import Derived.Deep.RegionLaw
import Derived.ArgAppend
import Derived.RangeFuncNested
import Derived.RangeFuncBound
import Derived.RangeFuncCalls
import Derived.RangeFuncLeaves
import Derived.RangeFuncBox
import Derived.RangeFuncFrom
import Derived.OwnWalkIn
import Derived.TacticsInMore
import Derived.LoopNIn
import Derived.LoopIn
import Derived.Deep.Upon
import Derived.Deep.QuietTactic
import Derived.BigQuiet
import Derived.Deep.RegionHeld3
import Derived.Deep.DeepCutAuto
import Derived.Deep.CutBlock
import Derived.Laws.EntriesVeiled
import Derived.StillTailTactics
import Derived.Laws.Tables
import Derived.Laws.CopyOwn
import Derived.IntWalk
import Derived.Test.YtbfcejbjljalmaaBlocks
import Derived.Laws.CopyOwn
import Derived.Laws.Tables
import Derived.Outline
namespace Go.Proofs.Ytbfcejbjljalmaa.P
open Go.RowKit Go.Proofs.YtbfcejbjljalmaaW.PrintWords Go.Proofs.YtbfcejbjljalmaaW.PrintLast Go.Proofs.YtbfcejbjljalmaaW.PrintMore
set_option linter.unusedVariables false
set_option linter.unusedSimpArgs false
namespace Wl
open Go.Proofs.Ytbfcejbjljalmaa.Blocks Frm
set_option maxRecDepth 100000
theorem names0_calls {W : World} {B dp mp : Nat} {room used acts : Int} {la sv : Value} {ss : List Value} {n : Nat} (h : Ds W B dp mp room used acts la sv ss #[] n) : Calls Try.prog 25 #[.pointer (some ⟨dp, 0, none⟩)] W fun e w => e = .returned (.slice none 0 0) ∧ Below W.heap.size W w := by
  have c1 : W.cell? ⟨dp, 1, none⟩ = some (.map (some mp)) := blk_cell h.dsk 1
  have HD := Aside0.mk h
  have HB1 := Aside0.mk (below_alloc (Below.refl W.heap.size W) (.cells #[.map (some mp)] 51))
  have HX1 := Aside0.mk (blk_new W (.cells #[.map (some mp)] 51))
  have HM1 := Aside0.mk ((HB1.out.block mp (Array.getElem?_eq_some_iff.1 h.map).1).trans h.map)
  clear h
  go_enter Try.func25, Try.ntmps25
  go_wp2_with (first
    | (go_at_call 43; refine (made_calls HD.out).mono ?_; rintro e w2 ⟨rfl, hw⟩; subst hw)
    | (go_at_call 72; refine (seq0_calls _ _ _ _ HX1.out HM1.out).mono ?_; rintro e w3 ⟨rfl, hb⟩; (have HB3 := Aside0.mk (HB1.out.trans (below_w hb HB1.out.size))); clear hb)
    | (go_at_call 60; refine (sort0_calls _).mono ?_; rintro e w4 ⟨rfl, hw⟩; subst hw)
    | go_in)
  go_ret
  exact ⟨rfl, HB3.out⟩
end Wl

end Go.Proofs.Ytbfcejbjljalmaa.P
