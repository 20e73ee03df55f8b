import Derived.Test.YtbfcejbjljalmaaF13
import Derived.Maps.OwnOps
import Derived.WideMake
import Derived.Laws.IdiomRangeMap
import Derived.Maps.AppendAt
import Derived.Deep.RegionLaw
import Derived.ArgAppend
import Derived.RangeFuncNested
import Derived.RangeFuncBound
import Derived.RangeFuncCalls
import Derived.RangeFuncLeaves
import Derived.RangeFuncBox
import Derived.RangeFuncFrom
import Derived.OwnWalkIn
import Derived.TacticsInMore
import Derived.LoopNIn
import Derived.LoopIn
import Derived.Deep.Upon
import Derived.Deep.QuietTactic
import Derived.BigQuiet
import Derived.Deep.RegionHeld3
import Derived.Deep.DeepCutAuto
import Derived.Deep.CutBlock
import Derived.Laws.EntriesVeiled
import Derived.StillTailTactics
import Derived.Laws.Tables
import Derived.Laws.CopyOwn
import Derived.IntWalk
import Derived.Test.YtbfcejbjljalmaaBlocks
import Derived.Laws.CopyOwn
import Derived.Laws.Tables
import Derived.Outline
namespace Go.Proofs.Ytbfcejbjljalmaa.P
open Go.RowKit Go.Proofs.YtbfcejbjljalmaaW.PrintWords Go.Proofs.YtbfcejbjljalmaaW.PrintLast Go.Proofs.YtbfcejbjljalmaaW.PrintMore
set_option linter.unusedVariables false
set_option linter.unusedSimpArgs false
namespace Wl
open Go.Proofs.Ytbfcejbjljalmaa.Blocks Frm
set_option maxRecDepth 100000
theorem do1_calls {W : World} (lv : Value) (g c : Nat) (f1 : FuncId) (p1 c1 : Array Value) (h1 : W.cell? ⟨g, 0, none⟩ = some (.func (.func f1) p1 c1)) (e1 : ∀ (args : Array Value) (w : World), Sem.run Try.prog (callFunc f1 args) w = .ok (.enter f1 args) w) {Q1 : World → Prop} (hf1 : Calls Try.prog f1 (p1 ++ c1) W fun e w => e = .returned (.int .i64 0) ∧ Q1 w) :
    Calls Try.prog 37 #[lv, .slice (some ⟨g, 0, none⟩) 1 c] W fun e w => e = .returned (.int .i64 0) ∧ Q1 w := by
  have HF := Aside0.mk hf1
  clear hf1
  go_enter Try.func37, Try.ntmps37
  go_wp2
  refine wp_loop_rounds 2 ?_
  rw [rounds_succ]
  go_wp2_with (first | ((with_reducible refine HF.out.mono ?_); rintro e w2 ⟨rfl, hq⟩; (have HQ := Aside0.mk hq); clear hq) | fail)
  rw [rounds_succ]
  go_wp2
  go_ret
  exact ⟨rfl, HQ.out⟩
theorem do2_calls {W : World} (lv : Value) (g c : Nat) (f1 f2 : FuncId) (c1 c2 : Array Value) (h1 : W.cell? ⟨g, 0, none⟩ = some (.func (.func f1) #[] c1)) (e1 : ∀ (args : Array Value) (w : World), Sem.run Try.prog (callFunc f1 args) w = .ok (.enter f1 args) w) (e2 : ∀ (args : Array Value) (w : World), Sem.run Try.prog (callFunc f2 args) w = .ok (.enter f2 args) w) {Q1 Q2 : World → Prop} (hf1 : Calls Try.prog f1 c1 W fun e w => e = .returned (.int .i64 0) ∧ Q1 w)
    (h2 : ∀ w, Q1 w → w.cell? ⟨g, 1, none⟩ = some (.func (.func f2) #[] c2)) (hf2 : ∀ w, Q1 w → Calls Try.prog f2 c2 w fun e w' => e = .returned (.int .i64 0) ∧ Q2 w') :
    Calls Try.prog 37 #[lv, .slice (some ⟨g, 0, none⟩) 2 c] W fun e w => e = .returned (.int .i64 0) ∧ Q2 w := by
  have HF := Aside0.mk hf1
  have HF2 := Aside0.mk hf2
  have H2 := Aside0.mk h2
  clear hf1 hf2 h2
  go_enter Try.func37, Try.ntmps37
  go_wp2
  refine wp_loop_rounds 3 ?_
  rw [rounds_succ]
  go_wp2_with (first | ((with_reducible refine HF.out.mono ?_); rintro e w2 ⟨rfl, hq⟩; (have HQ := Aside0.mk hq); (have k2 := H2.out _ hq); clear hq) | fail)
  rw [rounds_succ]
  go_wp2_with (first | ((with_reducible refine (HF2.out _ HQ.out).mono ?_); rintro e w3 ⟨rfl, hq⟩; (have HQ3 := Aside0.mk hq); clear hq) | fail)
  rw [rounds_succ]
  go_wp2
  go_ret
  exact ⟨rfl, HQ3.out⟩
set_option maxHeartbeats 1000000 in
theorem clo1_calls {W : World} {B dp mp lb lp : Nat} {room used acts las : Int} {la sv rv : Value} {ss : List Value} {th : Bool} (h : Ds W B dp mp room used acts la sv ss #[] 0) (h0 : 0 ≤ acts) (h1 : acts ≤ 1099511627776) (hB0 : B ≤ W.heap.size) (hss : ss.length ≤ 1000000) (hu : 0 ≤ used) (hr : used + 1 ≤ room) (hr2 : room ≤ 67108864)
    (hb : W.heap[lb]? = some (.cells #[.pointer (some ⟨lp, 0, none⟩)] 26 (0, 0))) (hl : W.heap[lp]? = some (.cells (lcells dp ⟨#[97]⟩ th rv las) 63 (0, 0))) :
    Calls Try.prog 33 #[.pointer (some ⟨lb, 0, none⟩)] W fun e w => e = .returned (.int .i64 0) ∧ ∃ v sv' ss', Ds w B dp mp room 1 (acts + 1) la sv' ss' #[fe v] 1 ∧ ss'.length = ss.length + 1 ∧ w.ownsRow W.heap.size 5 1 v 0 [] ∧ Below B W w ∧ Fr dp mp W w := by
  have b0 : W.cell? ⟨lb, 0, none⟩ = some (.pointer (some ⟨lp, 0, none⟩)) := blk_cell hb 0
  have l0 : W.cell? ⟨lp, 0, none⟩ = some (.pointer (some ⟨dp, 0, none⟩)) := blk_cell hl 0
  have l1 : W.cell? ⟨lp, 1, none⟩ = some (.string ⟨#[97]⟩) := blk_cell hl 1
  have hdr : Below W.heap.size W W.drew := Drawn0.below ⟨1, rfl⟩
  have HC := Aside0.mk (create_calls (h.below hdr) h0 h1 (Nat.le_trans hB0 hdr.size) hss hu hr hr2)
  have HDR := Aside0.mk hdr
  have HB0 := Aside0.mk hB0
  clear h h0 h1 hB0 hss hu hr hr2 hb hl hdr
  go_enter Try.func33, Try.ntmps33
  go_upto_region 1 with fail
  go_still_tail 8, (by kernel_rfl)
  repeat still_step
  try refine wpStill_nil ?_
  change wpList _ _ _ _ _ W.drew
  clear b0 l0 l1
  generalize W.drew = w1 at HC HDR ⊢
  go_wp2_with (first | (go_at_call 34; refine HC.out.mono ?_; rintro e w2 ⟨rfl, v, sv', hd, ho, hb, hf⟩; (have HR := Aside0.mk (And.intro hd (And.intro ho (And.intro hb hf)))); clear hd ho hb hf) | fail)
  go_ret
  exact ⟨rfl, v, sv', _, HR.out.1, by simp, own_lower HR.out.2.1 HDR.out.size, (below_w HDR.out HB0.out).trans HR.out.2.2.1, (Fr.of HDR.out).trans HR.out.2.2.2⟩
set_option maxHeartbeats 1000000 in
theorem clo2_calls {W : World} {B dp mp lb lp bb bv : Nat} {room used acts las : Int} {la sv rv v : Value} {ss : List Value} {th : Bool} {xs ys : List Int} (h : Ds W B dp mp room used acts la sv ss #[fe v] 1) (hv : W.ownsRow bv 5 1 v xs.length (nums .u8 xs)) (ad : Addr) (c2 : Nat) (hY : Kd.C (Kd.int .u8) W (some ad) ys.length ys) (hy : 0 < ys.length) (h0 : 0 ≤ acts) (h1 : acts ≤ 1099511627776) (hB0 : B ≤ W.heap.size) (hss : ss.length ≤ 1000000) (hu : 0 ≤ used) (hr : used + ys.length ≤ room) (hr2 : room ≤ 67108864) (hxl : xs.length ≤ 67108864)
    (hb : W.heap[lb]? = some (.cells #[.pointer (some ⟨lp, 0, none⟩)] 26 (0, 0))) (hl : W.heap[lp]? = some (.cells (lcells dp ⟨#[97]⟩ th rv las) 63 (0, 0))) (hbb : W.heap[bb]? = some (.cells #[.slice (some ad) ys.length c2] 29 (0, 0))) :
    Calls Try.prog 35 #[.pointer (some ⟨lb, 0, none⟩), .pointer (some ⟨bb, 0, none⟩)] W fun e w => e = .returned (.int .i64 0) ∧ ∃ v' sv' ss', Ds w B dp mp room ((1 + (xs ++ ys).length : Nat) : Int) (acts + 1) la sv' ss' #[fe v'] 1 ∧ ss'.length = ss.length + 1 ∧ w.ownsRow W.heap.size 5 1 v' (xs ++ ys).length (nums .u8 (xs ++ ys)) ∧ Below B W w ∧ Fr dp mp W w := by
  have b0 : W.cell? ⟨lb, 0, none⟩ = some (.pointer (some ⟨lp, 0, none⟩)) := blk_cell hb 0
  have l0 : W.cell? ⟨lp, 0, none⟩ = some (.pointer (some ⟨dp, 0, none⟩)) := blk_cell hl 0
  have l1 : W.cell? ⟨lp, 1, none⟩ = some (.string ⟨#[97]⟩) := blk_cell hl 1
  have d0 : W.cell? ⟨bb, 0, none⟩ = some (.slice (some ad) ys.length c2) := blk_cell hbb 0
  have hdr : Below W.heap.size W W.drew := Drawn0.below ⟨1, rfl⟩
  have HC := Aside0.mk (append_calls (h.below hdr) (own_below hv hdr) ad c2 (Kd.C_below hY hdr) hy h0 h1 (Nat.le_trans hB0 hdr.size) hss hu hr hr2 hxl)
  have HDR := Aside0.mk hdr
  have HB0 := Aside0.mk hB0
  clear h hv hY hy h0 h1 hB0 hss hu hr hr2 hxl hb hl hbb hdr
  go_enter Try.func35, Try.ntmps35
  go_upto_region 1 with fail
  go_still_tail 9, (by kernel_rfl)
  repeat still_step
  try refine wpStill_nil ?_
  change wpList _ _ _ _ _ W.drew
  clear b0 l0 l1 d0
  generalize W.drew = w1 at HC HDR ⊢
  go_wp2_with (first | (go_at_call 36; refine HC.out.mono ?_; rintro e w2 ⟨rfl, v', sv', ss', hd, hn, ho, hb, hf⟩; (have HR := Aside0.mk (And.intro hd (And.intro hn (And.intro ho (And.intro hb hf))))); clear hd hn ho hb hf) | fail)
  go_ret
  exact ⟨rfl, v', sv', ss', HR.out.1, HR.out.2.1, own_lower HR.out.2.2.1 HDR.out.size, (below_w HDR.out HB0.out).trans HR.out.2.2.2.1, (Fr.of HDR.out).trans HR.out.2.2.2.2⟩
end Wl

end Go.Proofs.Ytbfcejbjljalmaa.P
