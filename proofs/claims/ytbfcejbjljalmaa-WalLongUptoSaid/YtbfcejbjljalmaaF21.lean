import Derived.Test.YtbfcejbjljalmaaF20
import Derived.Maps.OwnOps
import Derived.WideMake
import Derived.Laws.IdiomRangeMap
import Derived.Maps.AppendAt
import Derived.Deep.RegionLaw
import Derived.ArgAppend
import Derived.RangeFuncNested
import Derived.RangeFuncBound
import Derived.RangeFuncCalls
import Derived.RangeFuncLeaves
import Derived.RangeFuncBox
import Derived.RangeFuncFrom
import Derived.OwnWalkIn
import Derived.TacticsInMore
import Derived.LoopNIn
import Derived.LoopIn
import Derived.Deep.Upon
import Derived.Deep.QuietTactic
import Derived.BigQuiet
import Derived.Deep.RegionHeld3
import Derived.Deep.DeepCutAuto
import Derived.Deep.CutBlock
import Derived.Laws.EntriesVeiled
import Derived.StillTailTactics
import Derived.Laws.Tables
import Derived.Laws.CopyOwn
import Derived.IntWalk
import Derived.Test.YtbfcejbjljalmaaBlocks
import Derived.Laws.CopyOwn
import Derived.Laws.Tables
import Derived.Outline
namespace Go.Proofs.Ytbfcejbjljalmaa.P
open Go.RowKit Go.Proofs.YtbfcejbjljalmaaW.PrintWords Go.Proofs.YtbfcejbjljalmaaW.PrintLast Go.Proofs.YtbfcejbjljalmaaW.PrintMore
set_option linter.unusedVariables false
set_option linter.unusedSimpArgs false
namespace Wl
open Go.Proofs.Ytbfcejbjljalmaa.Blocks Frm
set_option maxRecDepth 100000
/-- One record that is too long. -/
theorem framedL_calls {W : World} (g : Nat) (A : Option Addr) (n c : Nat) (hg : W.heap[g]? = some (.cells #[.slice A n c] 29 (0, 0))) (hl : 1048576 < n) : Calls Try.prog 32 #[.slice (some ⟨g, 0, none⟩) 1 1] W fun e w => e = .returned (.tuple #[.slice none 0 0, .int .i64 130]) ∧ w = W := by
  have g0 : W.cell? ⟨g, 0, none⟩ = some (.slice A n c) := blk_cell hg 0
  have b1 : decide (1048576 < (n : Int)) = true := decide_eq_true (by omega)
  clear hg hl
  go_enter Try.func32, Try.ntmps32
  go_wp2
  refine wp_loop_rounds 2 ?_
  rw [rounds_succ]
  go_wp2
  go_ret2
  exact ⟨rfl, rfl⟩
theorem len_calls {W : World} {dp lp : Nat} {nm : ByteArray} {th : Bool} {A : Option Addr} {n c : Nat} {las : Int} (hl : W.heap[lp]? = some (.cells (lcells dp nm th (.slice A n c) las) 63 (0, 0))) : Calls Try.prog 8 #[.pointer (some ⟨lp, 0, none⟩)] W fun e w => e = .returned (.int .i64 n) ∧ w = W := by
  have l3 : W.cell? ⟨lp, 3, none⟩ = some (.slice A n c) := blk_cell hl 3
  clear hl
  go_enter Try.func8, Try.ntmps8
  go_wp2
  go_ret
  exact ⟨rfl, rfl⟩
set_option maxHeartbeats 1000000 in
/-- Nothing new to be synced. -/
theorem sync_none {W : World} {dp lp : Nat} {nm : ByteArray} {th : Bool} {A : Option Addr} {n c : Nat} (hl : W.heap[lp]? = some (.cells (lcells dp nm th (.slice A n c) n) 63 (0, 0))) : Calls Try.prog 10 #[.pointer (some ⟨lp, 0, none⟩)] W fun e w => e = .returned (.int .i64 0) ∧ Below W.heap.size W w := by
  have HL := Aside0.mk hl
  have l3 : W.cell? ⟨lp, 3, none⟩ = some (.slice A n c) := blk_cell hl 3
  have l4 : W.cell? ⟨lp, 4, none⟩ = some (.int .i64 n) := blk_cell hl 4
  clear hl
  go_enter Try.func10, Try.ntmps10
  go_upto_region 2 with (first | (go_at_call 31; refine (state_calls HL.out).mono ?_; rintro e w2 ⟨rfl, hw⟩; (have hw_ := hw.symm); clear hw; subst hw_) | fail)
  go_quiet (fail)
  have hdn : Below W.heap.size W (W.drewN nq) := Drawn0.below ⟨nq, rfl⟩
  go_wp2
  go_ret
  exact ⟨rfl, hdn⟩
set_option maxHeartbeats 1000000 in
theorem append_long {W : World} {dp lp : Nat} {nm : ByteArray} {th : Bool} {rv : Value} {las : Int} (hl : W.heap[lp]? = some (.cells (lcells dp nm th rv las) 63 (0, 0))) (A : Option Addr) (n c : Nat) (hn : 1048576 < n) : Calls Try.prog 7 #[.pointer (some ⟨lp, 0, none⟩), .slice A n c] W fun e w => e = .returned (.tuple #[.int .i64 0, .int .i64 130]) ∧ Below W.heap.size W w := by
  have HB1 := Aside0.mk (below_alloc (Below.refl W.heap.size W) (.cells #[.pointer (some ⟨lp, 0, none⟩)] 26))
  have HL1 := Aside0.mk (blk_below hl HB1.out)
  have HX1 := Aside0.mk (blk_new W (.cells #[.pointer (some ⟨lp, 0, none⟩)] 26))
  have HN := Aside0.mk hn
  clear hl hn
  go_enter Try.func7, Try.ntmps7
  go_upto_region 1 with fail
  generalize W.alloc (.cells #[.pointer (some ⟨lp, 0, none⟩)] 26) = w1 at HB1 HL1 HX1 ⊢
  have b0 : w1.cell? ⟨W.heap.size, 0, none⟩ = some (.pointer (some ⟨lp, 0, none⟩)) := blk_cell HX1.out 0
  have HBS := Aside0.mk (blk_new w1 (.cells #[.slice A n c] 29))
  have HB2 := Aside0.mk (HB1.out.alloc HB1.out.size (.cells #[.slice A n c] 29))
  go_wp2_with (first
    | (go_at_call 31; refine (state_calls HL1.out).mono ?_; rintro e w2 ⟨rfl, hw⟩; (have hw_ := hw.symm); clear hw; subst hw_)
    | (go_at_call 32; refine (framedL_calls _ _ _ _ HBS.out HN.out).mono ?_; rintro e w3 ⟨rfl, hw⟩; (have hw_ := hw.symm); clear hw; subst hw_)
    | fail)
  go_ret2
  exact ⟨rfl, HB2.out.alloc (by rw [World.size_alloc]; have := HB1.out.size; omega) _⟩
set_option maxHeartbeats 1000000 in
theorem start_long {W : World} {dp lp : Nat} {nm : ByteArray} {th : Bool} {rv : Value} {las : Int} (hl : W.heap[lp]? = some (.cells (lcells dp nm th rv las) 63 (0, 0))) (g : Nat) (A : Option Addr) (n c : Nat) (hg : W.heap[g]? = some (.cells #[.slice A n c] 29 (0, 0))) (hn : 1048576 < n) : Calls Try.prog 9 #[.pointer (some ⟨lp, 0, none⟩), .slice (some ⟨g, 0, none⟩) 1 1] W fun e w => e = .returned (.int .i64 130) ∧ Below W.heap.size W w := by
  have HB1 := Aside0.mk (below_alloc (Below.refl W.heap.size W) (.cells #[.pointer (some ⟨lp, 0, none⟩)] 26))
  have HL1 := Aside0.mk (blk_below hl HB1.out)
  have HG1 := Aside0.mk (blk_below hg HB1.out)
  have HX1 := Aside0.mk (blk_new W (.cells #[.pointer (some ⟨lp, 0, none⟩)] 26))
  have HN := Aside0.mk hn
  clear hl hn hg
  go_enter Try.func9, Try.ntmps9
  go_upto_region 1 with fail
  generalize W.alloc (.cells #[.pointer (some ⟨lp, 0, none⟩)] 26) = w1 at HB1 HL1 HG1 HX1 ⊢
  have b0 : w1.cell? ⟨W.heap.size, 0, none⟩ = some (.pointer (some ⟨lp, 0, none⟩)) := blk_cell HX1.out 0
  go_wp2_with (first
    | (go_at_call 31; refine (state_calls HL1.out).mono ?_; rintro e w2 ⟨rfl, hw⟩; (have hw_ := hw.symm); clear hw; subst hw_)
    | (go_at_call 32; refine (framedL_calls _ _ _ _ HG1.out HN.out).mono ?_; rintro e w3 ⟨rfl, hw⟩; (have hw_ := hw.symm); clear hw; subst hw_)
    | fail)
  go_ret
  exact ⟨rfl, HB1.out.alloc HB1.out.size _⟩
end Wl

end Go.Proofs.Ytbfcejbjljalmaa.P
