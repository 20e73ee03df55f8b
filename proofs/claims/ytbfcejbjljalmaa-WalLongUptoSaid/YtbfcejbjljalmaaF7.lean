import Derived.Test.YtbfcejbjljalmaaF6
import Derived.Maps.OwnOps
import Derived.WideMake
import Derived.Laws.IdiomRangeMap
import Derived.Maps.AppendAt
import Derived.Deep.RegionLaw
import Derived.ArgAppend
import Derived.Deep.Upon
import Derived.Deep.QuietTactic
import Derived.BigQuiet
import Derived.Deep.RegionHeld3
import Derived.Deep.DeepCutAuto
import Derived.Deep.CutBlock
import Derived.Laws.EntriesVeiled
import Derived.StillTailTactics
import Derived.Laws.Tables
import Derived.Laws.CopyOwn
import Derived.IntWalk
import Derived.Test.YtbfcejbjljalmaaBlocks
import Derived.Laws.CopyOwn
import Derived.Laws.Tables
import Derived.Outline
namespace Go.Proofs.Ytbfcejbjljalmaa.P
open Go.RowKit Go.Proofs.YtbfcejbjljalmaaW.PrintWords Go.Proofs.YtbfcejbjljalmaaW.PrintLast Go.Proofs.YtbfcejbjljalmaaW.PrintMore
set_option linter.unusedVariables false
set_option linter.unusedSimpArgs false
namespace Wl
open Go.Proofs.Ytbfcejbjljalmaa.Blocks Frm
set_option maxRecDepth 100000
theorem Ds.apart {W : World} {B dp mp : Nat} {room used acts : Int} {la sv : Value} {ss : List Value} {es : Array MapEntry} {n : Nat} (h : Ds W B dp mp room used acts la sv ss es n) {base m : Nat} {t : TypeId} {u : Value} {z : List Value} (ho : W.ownsRow base t 1 u m z) (ht : t ≠ 54) : ∀ g, u.ownBlock = some g → g ≠ dp ∧ g ≠ mp := by
  intro g hg
  obtain ⟨c1, k1⟩ := own_typed ho g hg
  refine ⟨fun e => ?_, fun e => ?_⟩
  · subst e
    rw [h.dsk] at k1
    injection k1 with k1
    injection k1 with _ k1
    exact ht k1.symm
  · subst e
    rw [h.map] at k1
    cases k1
theorem meth_created (w : World) : (method 251 92 (.agg #[.string ⟨#[97]⟩]) "hawser/disk.count").run Try.prog w = .ok (115, .agg #[.string ⟨#[97]⟩]) w := by kernel_rfl
theorem meth_laid (w : World) (A : Option Addr) (n c : Nat) : (method 251 94 (.agg #[.string ⟨#[97]⟩, .slice A n c]) "hawser/disk.count").run Try.prog w = .ok (116, .agg #[.string ⟨#[97]⟩, .slice A n c]) w := by kernel_rfl
set_option maxHeartbeats 1000000 in
theorem create_calls {W : World} {B dp mp : Nat} {room used acts : Int} {la sv : Value} {ss : List Value} (h : Ds W B dp mp room used acts la sv ss #[] 0) (h0 : 0 ≤ acts) (h1 : acts ≤ 1099511627776) (hB0 : B ≤ W.heap.size) (hss : ss.length ≤ 1000000) (hu : 0 ≤ used) (hr : used + 1 ≤ room) (hr2 : room ≤ 67108864) :
    Calls Try.prog 34 #[.pointer (some ⟨dp, 0, none⟩), .string ⟨#[97]⟩] W fun e w => e = .returned (.int .i64 0) ∧ ∃ v sv', Ds w B dp mp room 1 (acts + 1) la sv' (ss ++ [.iface 92 (.agg #[.string ⟨#[97]⟩])]) #[fe v] 1 ∧ w.ownsRow W.heap.size 5 1 v 0 [] ∧ Below B W w ∧ Fr dp mp W w := by
  have HB1 := Aside0.mk (below_alloc (Below.refl W.heap.size W) (.cells #[.string ⟨#[97]⟩] 9))
  have HD := Aside0.mk (h.below HB1.out)
  have HS := Aside0.mk (blk_cell (blk_new W (.cells #[.string ⟨#[97]⟩] 9)) 0)
  have HN := Aside0.mk (And.intro h0 (And.intro h1 (And.intro hB0 hss)))
  have hd : decide (room - used < 1) = false := decide_eq_false (by omega)
  have hw : wrap64 (room - used) = room - used := by unfold wrap64; omega
  have hSZ : Aside0 ((W.alloc (.cells #[.string ⟨#[97]⟩] 9)).heap.size = W.heap.size + 1) := ⟨World.size_alloc _ _⟩
  clear h h0 h1 hB0 hss
  go_enter Try.func34, Try.ntmps34
  go_upto_region 6 with (first | (go_at_call 54; refine (ready_calls HD.out _ HS.out).mono ?_; rintro r w1 ⟨rfl, hw⟩; subst hw) | (go_at_call 57; refine (has0_calls HD.out).mono ?_; rintro r w1 ⟨rfl, hw⟩; subst hw) | fail)
  generalize W.alloc (.cells #[.string ⟨#[97]⟩] 9) = w1 at HB1 HD hSZ ⊢
  have c0 : w1.cell? ⟨dp, 0, none⟩ = some (.int .i64 room) := blk_cell HD.out.dsk 0
  have c4 : w1.cell? ⟨dp, 4, none⟩ = some (.int .i64 used) := blk_cell HD.out.dsk 4
  go_quiet (fail)
  have hdn : Below w1.heap.size w1 (w1.drewN nq) := Drawn0.below ⟨nq, rfl⟩
  have HD2 := Aside0.mk (HD.out.below hdn)
  have HB2 := Aside0.mk (HB1.out.trans (below_w hdn HB1.out.size))
  clear hdn HD HB1 c0 c4 hSZ HS
  generalize w1.drewN nq = w2 at HD2 HB2 ⊢
  have HST := Aside0.mk (step_gen HD2.out HN.out.1 HN.out.2.1 (Nat.le_trans HN.out.2.2.1 HB2.out.size) HN.out.2.2.2 92 (.agg #[.string ⟨#[97]⟩]) 115 1 (by decide) [] (by decide) (fun w => meth_created w) (fun args w => by kernel_rfl) (fun w => count_created w) (fun w hm hf => (do_created w mp hm).mono (fun e w' ⟨he, hm', hb⟩ => ⟨he, _, hm', ⟨by simp [nums], .inl ⟨rfl, rfl⟩⟩, hb⟩)))
  go_wp2_with (first | (go_at_call 50; refine HST.out.mono ?_; rintro e w3 ⟨rfl, v, sv', hd3, ho3, hb3, hf3⟩; (have HR := Aside0.mk (And.intro hd3 (And.intro ho3 (And.intro hb3 hf3)))); clear hd3 ho3 hb3 hf3) | fail)
  go_ret
  exact ⟨rfl, v, sv', HR.out.1, own_lower HR.out.2.1 HB2.out.size, (below_w HB2.out HN.out.2.2.1).trans HR.out.2.2.1, (Fr.of HB2.out).trans HR.out.2.2.2⟩
end Wl

end Go.Proofs.Ytbfcejbjljalmaa.P
