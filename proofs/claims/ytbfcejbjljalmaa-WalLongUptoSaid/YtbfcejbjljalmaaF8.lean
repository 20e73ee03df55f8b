import Derived.Test.YtbfcejbjljalmaaF7
import Derived.Maps.OwnOps
import Derived.WideMake
import Derived.Laws.IdiomRangeMap
import Derived.Maps.AppendAt
import Derived.Deep.RegionLaw
import Derived.ArgAppend
import Derived.Deep.Upon
import Derived.Deep.QuietTactic
import Derived.BigQuiet
import Derived.Deep.RegionHeld3
import Derived.Deep.DeepCutAuto
import Derived.Deep.CutBlock
import Derived.Laws.EntriesVeiled
import Derived.StillTailTactics
import Derived.Laws.Tables
import Derived.Laws.CopyOwn
import Derived.IntWalk
import Derived.Test.YtbfcejbjljalmaaBlocks
import Derived.Laws.CopyOwn
import Derived.Laws.Tables
import Derived.Outline
namespace Go.Proofs.Ytbfcejbjljalmaa.P
open Go.RowKit Go.Proofs.YtbfcejbjljalmaaW.PrintWords Go.Proofs.YtbfcejbjljalmaaW.PrintLast Go.Proofs.YtbfcejbjljalmaaW.PrintMore
set_option linter.unusedVariables false
set_option linter.unusedSimpArgs false
namespace Wl
open Go.Proofs.Ytbfcejbjljalmaa.Blocks Frm
set_option maxRecDepth 100000
theorem nil_cap {W : World} {base n c : Nat} {e : TypeId} {A : Option Addr} {z : List Value} (h : W.ownsRow base e 1 (.slice A n c) n z) : A = none → c = 0 := by
  rintro rfl
  rcases h.2 with ⟨hv, _⟩ | ⟨g, cap, cur, hv, _⟩
  · injection hv
  · injection hv with hv
    cases hv
set_option maxHeartbeats 1000000 in
/-- Bytes at the end of the file 'a'. -/
theorem append_calls {W : World} {B dp mp : Nat} {room used acts : Int} {la sv v : Value} {ss : List Value} {xs ys : List Int} {bv : Nat} (h : Ds W B dp mp room used acts la sv ss #[fe v] 1) (hv : W.ownsRow bv 5 1 v xs.length (nums .u8 xs)) (ad : Addr) (c2 : Nat) (hY : Kd.C (Kd.int .u8) W (some ad) ys.length ys) (hy : 0 < ys.length) (h0 : 0 ≤ acts) (h1 : acts ≤ 1099511627776) (hB0 : B ≤ W.heap.size) (hss : ss.length ≤ 1000000) (hu : 0 ≤ used) (hr : used + ys.length ≤ room) (hr2 : room ≤ 67108864) (hl : xs.length ≤ 67108864) :
    Calls Try.prog 36 #[.pointer (some ⟨dp, 0, none⟩), .string ⟨#[97]⟩, .slice (some ad) ys.length c2] W fun e w => e = .returned (.int .i64 0) ∧ ∃ v' sv' ss', Ds w B dp mp room ((1 + (xs ++ ys).length : Nat) : Int) (acts + 1) la sv' ss' #[fe v'] 1 ∧ ss'.length = ss.length + 1 ∧ w.ownsRow W.heap.size 5 1 v' (xs ++ ys).length (nums .u8 (xs ++ ys)) ∧ Below B W w ∧ Fr dp mp W w := by
  obtain ⟨Av, cv, rfl, hcv⟩ := Frm.own_slice hv
  have HD := Aside0.mk h
  have HV := Aside0.mk hv
  have HY := Aside0.mk hY
  have HN := Aside0.mk (And.intro h0 (And.intro h1 (And.intro hB0 (And.intro hss (And.intro hy (And.intro hcv hl))))))
  have hyl : (ys.length : Int) ≤ 67108864 := by omega
  have hd : decide (room - used < (ys.length : Int)) = false := decide_eq_false (by omega)
  have hw : wrap64 (room - used) = room - used := by unfold wrap64; omega
  have HYL := Aside0.mk hyl
  clear h hv hY h0 h1 hB0 hss hy hcv hl hyl
  go_enter Try.func36, Try.ntmps36
  go_upto_region 4 with (first | (go_at_call 46; refine (there1_calls HD.out).mono ?_; rintro r w1 ⟨rfl, hb⟩; (have HD1 := Aside0.mk (HD.out.below hb)); (have HV1 := Aside0.mk (own_below HV.out hb)); (have HY1 := Aside0.mk (Kd.C_below HY.out hb)); (have HB1 := Aside0.mk hb); clear hb) | fail)
  have c0 : w1.cell? ⟨dp, 0, none⟩ = some (.int .i64 room) := blk_cell HD1.out.dsk 0
  have c4 : w1.cell? ⟨dp, 4, none⟩ = some (.int .i64 used) := blk_cell HD1.out.dsk 4
  go_quiet (fail)
  have hdn : Below w1.heap.size w1 (w1.drewN nq) := Drawn0.below ⟨nq, rfl⟩
  have HD2 := Aside0.mk (HD1.out.below hdn)
  have HV2 := Aside0.mk (own_below HV1.out hdn)
  have HY2 := Aside0.mk (Kd.C_below HY1.out hdn)
  have HB2 := Aside0.mk (HB1.out.trans (below_w hdn HB1.out.size))
  clear hdn HD HD1 HB1 HV HV1 HY HY1 c0 c4
  generalize w1.drewN nq = w2 at HD2 HB2 HV2 HY2 ⊢
  go_wp2_with (first
    | (go_at_call 21; refine (clone_calls HY2.out (by have := HYL.out; omega)).mono ?_; rintro e w3 ⟨v3, rfl, ho3, hnn, hb3⟩; obtain ⟨a3, c3, hv3, hc3⟩ := Frm.own_slice ho3; subst hv3; obtain ⟨g3, hg3⟩ := hnn; (have hA3 : ∃ ad3, a3 = some ad3 := by cases a3 with | none => cases hg3 | some ad3 => exact ⟨ad3, rfl⟩); obtain ⟨ad3, hA3⟩ := hA3; subst hA3; clear hg3; (have HD3 := Aside0.mk (HD2.out.below hb3)); (have HV3 := Aside0.mk (own_below HV2.out hb3)); (have HO3 := Aside0.mk ho3); (have HB3 := Aside0.mk (HB2.out.trans (below_w hb3 HB2.out.size))); (have HC3 := Aside0.mk hc3); clear ho3 hb3 hc3;
       (have HST := Aside0.mk (step_gen HD3.out HN.out.1 HN.out.2.1 (Nat.le_trans HN.out.2.2.1 HB3.out.size) HN.out.2.2.2.1 94 (.agg #[.string ⟨#[97]⟩, .slice (some ad3) ys.length c3]) 116 ys.length HN.out.2.2.2.2.1 (xs ++ ys) (by rw [List.length_append]; have := HYL.out; have := HN.out.2.2.2.2.2.2; omega) (fun w => meth_laid w _ _ _) (fun args w => by kernel_rfl) (fun w => count_laid w _ _ _) (fun w hm hf => (do_laid w mp Av cv xs ys ad3 c3 hm (Frm.C_own (hf.own HV3.out (HD3.out.apart HV3.out (by decide)) (by decide))) HN.out.2.2.2.2.2.1 (nil_cap HV3.out) (Frm.C_own (hf.own HO3.out (HD3.out.apart HO3.out (by decide)) (by decide))) HC3.out HN.out.2.2.2.2.1 (by have := HYL.out; have := HN.out.2.2.2.2.2.2; omega)).mono (fun e w' ⟨he, v', hm', ho', hb⟩ => ⟨he, v', hm', ho', hb⟩)))))
    | (go_at_call 50; refine HST.out.mono ?_; rintro e w4 ⟨rfl, v4, sv', hd3, ho3, hb3, hf3⟩; (have HR := Aside0.mk (And.intro hd3 (And.intro ho3 (And.intro hb3 hf3)))); clear hd3 ho3 hb3 hf3)
    | fail)
  go_ret
  exact ⟨rfl, v4, sv', _, HR.out.1, by simp, own_lower HR.out.2.1 HB3.out.size, (below_w HB3.out HN.out.2.2.1).trans HR.out.2.2.1, (Fr.of HB3.out).trans HR.out.2.2.2⟩
end Wl

end Go.Proofs.Ytbfcejbjljalmaa.P
