import Derived.Test.YtepkaaplhcbkbaaGreatT13
import Derived.Test.YtepkaaplhcbkbaaGreatGx4
import Derived.Test.YtepkaaplhcbkbaaGreatGx6
import Derived.Deep.Upon
import Derived.Deep.QuietTactic
import Derived.BigQuiet
import Derived.Deep.RegionHeld3
import Derived.Deep.DeepCutAuto
import Derived.Deep.CutBlock
import Derived.Laws.EntriesVeiled
import Derived.StillTailTactics
import Derived.Laws.Tables
import Derived.Laws.CopyOwn
import Derived.Great.Walk
import Derived.Great.BuildSlice
import Derived.IntWalk
import Derived.Test.YtepkaaplhcbkbaaGreatBlocks
import Derived.Laws.CopyOwn
import Derived.Laws.Tables
import Derived.Outline
namespace Go.Proofs.YtepkaaplhcbkbaaGreat.G
open Go.RowKit Go.Proofs.YtepkaaplhcbkbaaGreatW.PrintWords Go.Proofs.YtepkaaplhcbkbaaGreatW.PrintLast Go.Proofs.YtepkaaplhcbkbaaGreatW.PrintMore
set_option linter.unusedVariables false
set_option linter.unusedSimpArgs false
namespace Cli
open Msg
set_option maxRecDepth 100000
set_option maxHeartbeats 2000000 in
theorem take_calls {W : World} {base c q : Nat} {id e ep nu : Int} {ch : List Int} {rq : Rq} (h : Cl W base c id e ch ep nu (some ⟨q, 0, none⟩)) (hq : W.heap[q]? = some (.cells rq.cells 147 (0, 0))) (hbq : base ≤ q) (hi : 1 ≤ id) (h16 : id ≤ 16) (m : Mg) (hkd : m.kd = 2) (htt : m.tt = 100 + id) (hnu : m.nu = rq.nu) (hep : ep ≤ m.ep) (hrd : rq.rd = false) (hdn : rq.dn = false) {g : Nat} {gs : Array Value} {gt : TypeId} (hg : W.heap[g]? = some (.cells gs gt (0, 0))) (hgc : g ≠ c) (hgq : g ≠ q)
    (hck : ∀ w, Calls Tryz.prog 18 #[.agg m.cells] w fun r w' => r = .returned (.int .i64 0) ∧ Below w.heap.size w w') :
    Calls Tryz.prog 29 #[.pointer (some ⟨c, 0, none⟩), .agg m.cells] W fun r w => r = .returned (.tuple #[.bool true, .int .i64 0]) ∧ Cl w base c id e ch m.ep nu (some ⟨q, 0, none⟩) ∧ w.heap[q]? = some (.cells (rq.replied m.rc m.rv).cells 147 (0, 0)) ∧ Below base W w ∧ w.heap[g]? = some (.cells gs gt (0, 0)) := by
  have HS := Aside0.mk (fun w (hw : w = W.alloc (.cells m.cells 49)) => is_calls (hw ▸ h.below (below_alloc (Below.refl W.heap.size W) (.cells m.cells 49)) : Cl w base c id e ch ep nu (some ⟨q, 0, none⟩)) hi)
  have HC1 := Aside0.mk (h.below (below_alloc (Below.refl W.heap.size W) (.cells m.cells 49)))
  have HQ1 := Aside0.mk (blk_alloc hq (.cells m.cells 49))
  have HM1 := Aside0.mk (blk_new W (.cells m.cells 49))
  have HO1 := Aside0.mk (blk_alloc hg (.cells m.cells 49))
  clear hg
  have HGL := Aside0.mk (Nat.le_trans h.ge (Nat.le_of_lt h.lt))
  have HB1 := Aside0.mk (below_weaken' (below_alloc (Below.refl W.heap.size W) (.cells m.cells 49)) HGL.out)
  have HU := Aside0.mk Tryz.underlying49
  have HKD := Aside0.mk hkd
  have HTT := Aside0.mk htt
  have HCK := Aside0.mk hck
  have HANS := Aside0.mk (fun w (h : Cl w base c id e ch ep nu (some ⟨q, 0, none⟩)) (hq : w.heap[q]? = some (.cells rq.cells 147 (0, 0))) (hg : w.heap[g]? = some (.cells gs gt (0, 0))) => answered_calls h hq hbq hi m hkd hnu hep hrd hdn hg hgc hgq)
  have hs : IntKind.i64.wrap (100 + id) = 100 + id := IntWalk.i64_in _ (by omega)
  have hne : (m.tt != 100 + id) = false := by simp [htt]
  clear h hq hkd hnu hrd hdn hck htt
  go_enter Tryz.func29, Tryz.ntmps29
  go_upto_region 6 with (first | (go_at_call 70; refine (HS.out _ rfl).mono ?_; rintro r w1 ⟨rfl, hw⟩; subst hw) | (go_at_call 18; refine (HCK.out _).mono ?_; rintro r w2 ⟨rfl, hb⟩; (have HC2 := Aside0.mk (HC1.out.below hb)); (have HQ2 := Aside0.mk (blk_below HQ1.out hb)); (have HM2 := Aside0.mk (blk_below HM1.out hb)); (have HO2 := Aside0.mk (blk_below HO1.out hb)); (have HB2 := Aside0.mk (HB1.out.trans (below_weaken' hb (Nat.le_trans HGL.out HB1.out.size)))); clear hb) | ((with_reducible refine wpList_load_row rfl 49 (.tmp 3) rfl W.heap.size ?_ 49 m.cells (0, 0) _ HM1.out HU.out ?_ ?_ ?_); (· rfl); (· rfl); (· exact info_msg)) | fail)
  obtain ⟨A, cc, hbx, hox⟩ := HC2.out.out
  have c0 : w2.cell? ⟨c, 0, none⟩ = some (.int .i64 id) := blk_cell hbx 0
  have m2 : w2.cell? ⟨W.heap.size, 2, none⟩ = some (.int .i64 m.tt) := blk_cell HM2.out 2
  clear hbx hox
  go_region_held3 (fun w => w.cell? ⟨c, 0, none⟩ = some (.int .i64 id) ∧ w.cell? ⟨W.heap.size, 2, none⟩ = some (.int .i64 m.tt)) (go_keep) (fail)
  have HC3 := Aside0.mk (HC2.out.below (below_drew (Below.refl _ _)))
  have HQ3 := Aside0.mk (blk_drew HQ2.out)
  have HO3 := Aside0.mk (blk_drew HO2.out)
  have HM3 := Aside0.mk (blk_drew HM2.out)
  have HB3 := Aside0.mk (HB2.out.trans (below_weaken' (Drawn0.below (⟨1, rfl⟩ : Drawn0 w2 w2.drew)) (Nat.le_trans HGL.out HB2.out.size)))
  clear HC1 HQ1 HM1 HB1 HC2 HQ2 HM2 HB2 HO1 HO2 c0 m2
  generalize w2.drew = w3 at HC3 HQ3 HM3 HB3 HO3 ⊢
  have m0 : w3.cell? ⟨W.heap.size, 0, none⟩ = some (.int .i64 2) := by rw [← HKD.out]; exact blk_cell HM3.out 0
  go_wp2_with (first | (go_at_call 72; refine (HANS.out _ HC3.out HQ3.out HO3.out).mono ?_; rintro r w4 ⟨rfl, hc4, hq4, hb4, ho4⟩) | ((with_reducible refine wpList_load_row rfl 49 (.tmp 3) rfl W.heap.size ?_ 49 m.cells (0, 0) _ HM3.out HU.out ?_ ?_ ?_); (· rfl); (· rfl); (· exact info_msg)) | fail)
  go_ret2
  exact ⟨rfl, hc4, hq4, HB3.out.trans hb4, ho4⟩
end Cli

end Go.Proofs.YtepkaaplhcbkbaaGreat.G
