import Derived.Test.YtepkaaplhcbkbaaGreatT12
import Derived.Test.YtepkaaplhcbkbaaGreatGx4
import Derived.Test.YtepkaaplhcbkbaaGreatGx6
import Derived.Deep.Upon
import Derived.Deep.QuietTactic
import Derived.BigQuiet
import Derived.Deep.RegionHeld3
import Derived.Deep.DeepCutAuto
import Derived.Deep.CutBlock
import Derived.Laws.EntriesVeiled
import Derived.StillTailTactics
import Derived.Laws.Tables
import Derived.Laws.CopyOwn
import Derived.Great.Walk
import Derived.Great.BuildSlice
import Derived.IntWalk
import Derived.Test.YtepkaaplhcbkbaaGreatBlocks
import Derived.Laws.CopyOwn
import Derived.Laws.Tables
import Derived.Outline
namespace Go.Proofs.YtepkaaplhcbkbaaGreat.G
open Go.RowKit Go.Proofs.YtepkaaplhcbkbaaGreatW.PrintWords Go.Proofs.YtepkaaplhcbkbaaGreatW.PrintLast Go.Proofs.YtepkaaplhcbkbaaGreatW.PrintMore
set_option linter.unusedVariables false
set_option linter.unusedSimpArgs false
namespace Cli
open Msg
set_option maxRecDepth 100000
theorem R_setq {W : World} {base c : Nat} {v : Value} {xs : List Int} {cs : Array Value} (h : Kd.R (Kd.int .i64) 3 W base (fun _ => True) v xs) (hb : W.heap[c]? = some (.cells cs 147 (0, 0))) (k : Nat) (u : Value) : Kd.R (Kd.int .i64) 3 (W.setCell ⟨c, k, none⟩ u) base (fun _ => True) v xs :=
  Kd.R_of_own (own_setCell (Kd.own_of_R h) (p := ⟨c, k, none⟩) (own_ne (Kd.own_of_R h) hb (by decide)) _) (fun _ _ => trivial)
/-- A request that is answered by a reply. -/
def Rq.replied (q : Rq) (rc rv : Int) : Rq := { q with rc := rc, rv := rv, dn := true }
set_option maxHeartbeats 2000000 in
theorem answered_calls {W : World} {base c q : Nat} {id e ep nu : Int} {ch : List Int} {rq : Rq} (h : Cl W base c id e ch ep nu (some ⟨q, 0, none⟩)) (hq : W.heap[q]? = some (.cells rq.cells 147 (0, 0))) (hbq : base ≤ q) (hi : 1 ≤ id) (m : Mg) (hkd : m.kd = 2) (hnu : m.nu = rq.nu) (hep : ep ≤ m.ep) (hrd : rq.rd = false) (hdn : rq.dn = false) {g : Nat} {gs : Array Value} {gt : TypeId} (hg : W.heap[g]? = some (.cells gs gt (0, 0))) (hgc : g ≠ c) (hgq : g ≠ q) :
    Calls Tryz.prog 72 #[.pointer (some ⟨c, 0, none⟩), .agg m.cells] W fun r w => r = .returned (.bool true) ∧ Cl w base c id e ch m.ep nu (some ⟨q, 0, none⟩) ∧ w.heap[q]? = some (.cells (rq.replied m.rc m.rv).cells 147 (0, 0)) ∧ Below base W w ∧ w.heap[g]? = some (.cells gs gt (0, 0)) := by
  have hC1 := h.below (below_alloc (Below.refl W.heap.size W) (.cells m.cells 49))
  have HQ1 := Aside0.mk (blk_alloc hq (.cells m.cells 49))
  have HM1 := Aside0.mk (blk_new W (.cells m.cells 49))
  have HB1 := Aside0.mk (below_weaken' (below_alloc (Below.refl W.heap.size W) (.cells m.cells 49)) (Nat.le_trans h.ge (Nat.le_of_lt h.lt)))
  have HL := Aside0.mk h.lt
  have HO1 := Aside0.mk (blk_alloc hg (.cells m.cells 49))
  clear hg
  have HG := Aside0.mk h.ge
  have HLQ := Aside0.mk (blk_lt hq)
  have HKD := Aside0.mk hkd
  have HNU := Aside0.mk hnu
  have HRD := Aside0.mk hrd
  have HDN := Aside0.mk hdn
  clear h hq hkd hnu hrd hdn
  go_enter Tryz.func72, Tryz.ntmps72
  go_upto_region 1 with fail
  generalize W.alloc (.cells m.cells 49) = w1 at hC1 HQ1 HM1 HB1 HO1 ⊢
  have HW := Aside0.mk (fun w (hw : w = w1.drew) => waits1_calls (hw ▸ hC1.below (below_drew (Below.refl _ _)) : Cl w base c id e ch ep nu (some ⟨q, 0, none⟩)) (hw ▸ blk_drew HQ1.out) hi)
  have HC1 := Aside0.mk hC1
  obtain ⟨A, cc, hbx, hox⟩ := hC1.out
  have HX1 := Aside0.mk hbx
  have HR1 := Aside0.mk hox
  clear hbx hox hC1
  have b1 : decide (m.ep < ep) = false := decide_eq_false (by omega)
  have b2 : (m.nu != rq.nu) = false := by simp [HNU.out]
  have c3 : w1.cell? ⟨c, 3, none⟩ = some (.int .i64 ep) := blk_cell HX1.out 3
  have c5 : w1.cell? ⟨c, 5, none⟩ = some (.pointer (some ⟨q, 0, none⟩)) := blk_cell HX1.out 5
  have q1 : w1.cell? ⟨q, 1, none⟩ = some (.int .i64 rq.nu) := blk_cell HQ1.out 1
  have m3 : w1.cell? ⟨W.heap.size, 3, none⟩ = some (.int .i64 m.ep) := blk_cell HM1.out 3
  have m6 : w1.cell? ⟨W.heap.size, 6, none⟩ = some (.int .i64 m.nu) := blk_cell HM1.out 6
  go_region_held3 (fun w => w.cell? ⟨c, 3, none⟩ = some (.int .i64 ep) ∧ w.cell? ⟨c, 5, none⟩ = some (.pointer (some ⟨q, 0, none⟩)) ∧ w.cell? ⟨q, 1, none⟩ = some (.int .i64 rq.nu) ∧ w.cell? ⟨W.heap.size, 3, none⟩ = some (.int .i64 m.ep) ∧ w.cell? ⟨W.heap.size, 6, none⟩ = some (.int .i64 m.nu)) (go_keep) ((go_at_call 32; refine (HW.out _ rfl).mono ?_; rintro r w2 ⟨rfl, hw⟩; subst hw; rw [HDN.out]))
  have HX2 := Aside0.mk (blk_drew HX1.out)
  have HQ2 := Aside0.mk (blk_drew HQ1.out)
  have HM2 := Aside0.mk (blk_drew HM1.out)
  have HO2 := Aside0.mk (blk_drew HO1.out)
  have HR2 := Aside0.mk (R_below HR1.out (below_drew (Below.refl _ _)))
  have HB2 := Aside0.mk (HB1.out.trans (below_weaken' (Drawn0.below (⟨1, rfl⟩ : Drawn0 w1 w1.drew)) (Nat.le_trans (Nat.le_trans HG.out (Nat.le_of_lt HL.out)) HB1.out.size)))
  clear HW HC1 HX1 HQ1 HM1 HR1 HB1 HO1 c3 c5 q1 m3 m6 b1 b2
  generalize w1.drew = w2 at HX2 HQ2 HM2 HR2 HB2 HO2 ⊢
  have c5 : w2.cell? ⟨c, 5, none⟩ = some (.pointer (some ⟨q, 0, none⟩)) := blk_cell HX2.out 5
  have q2 : w2.cell? ⟨q, 2, none⟩ = some (.bool false) := by rw [← HRD.out]; exact blk_cell HQ2.out 2
  have q10 : w2.cell? ⟨q, 10, none⟩ = some (.int .i64 rq.rc) := blk_cell HQ2.out 10
  have q11 : w2.cell? ⟨q, 11, none⟩ = some (.int .i64 rq.rv) := blk_cell HQ2.out 11
  have f10 : w2.frozen? ⟨q, 10, none⟩ = false := blk_frozen HQ2.out 10
  have f11 : w2.frozen? ⟨q, 11, none⟩ = false := blk_frozen HQ2.out 11
  have m0 : w2.cell? ⟨W.heap.size, 0, none⟩ = some (.int .i64 2) := by rw [← HKD.out]; exact blk_cell HM2.out 0
  have m20 : w2.cell? ⟨W.heap.size, 20, none⟩ = some (.int .i64 m.rc) := blk_cell HM2.out 20
  have m21 : w2.cell? ⟨W.heap.size, 21, none⟩ = some (.int .i64 m.rv) := blk_cell HM2.out 21
  go_upto_region 11 with fail
  have HE := Aside0.mk (blk_ne HX2.out HQ2.out (by decide))
  have hX3 : ((w2.setCell ⟨q, 10, none⟩ (.int .i64 m.rc)).setCell ⟨q, 11, none⟩ (.int .i64 m.rv)).heap[c]? = _ := blk_far (blk_far HX2.out HE.out _) HE.out _
  have hQ3 : ((w2.setCell ⟨q, 10, none⟩ (.int .i64 m.rc)).setCell ⟨q, 11, none⟩ (.int .i64 m.rv)).heap[q]? = some (.cells ({ rq with rc := m.rc, rv := m.rv } : Rq).cells 147 (0, 0)) := blk_set (blk_set HQ2.out 10 _) 11 _
  have hM3 : ((w2.setCell ⟨q, 10, none⟩ (.int .i64 m.rc)).setCell ⟨q, 11, none⟩ (.int .i64 m.rv)).heap[W.heap.size]? = _ := blk_far (blk_far HM2.out (Nat.ne_of_gt HLQ.out) _) (Nat.ne_of_gt HLQ.out) _
  have HO3 := Aside0.mk (blk_far (p := ⟨q, 11, none⟩) (blk_far (p := ⟨q, 10, none⟩) HO2.out hgq (.int .i64 m.rc)) hgq (.int .i64 m.rv))
  have hR3 := R_setq (R_setq HR2.out HQ2.out 10 (.int .i64 m.rc)) (blk_set HQ2.out 10 _) 11 (.int .i64 m.rv)
  have hB3 := Below.setCell (p := ⟨q, 11, none⟩) (Below.setCell (p := ⟨q, 10, none⟩) HB2.out hbq (.int .i64 m.rc)) hbq (.int .i64 m.rv)
  have HX3 := Aside0.mk hX3
  have HQ3 := Aside0.mk hQ3
  have HM3 := Aside0.mk hM3
  have HR3 := Aside0.mk hR3
  have HB3 := Aside0.mk hB3
  clear hX3 hQ3 hM3 hR3 hB3 HX2 HQ2 HM2 HR2 HB2 HO2 c5 q2 q10 q11 f10 f11 m0 m20 m21
  generalize (w2.setCell ⟨q, 10, none⟩ (.int .i64 m.rc)).setCell ⟨q, 11, none⟩ (.int .i64 m.rv) = w3 at HX3 HQ3 HM3 HR3 HB3 HO3 ⊢
  have c5 : w3.cell? ⟨c, 5, none⟩ = some (.pointer (some ⟨q, 0, none⟩)) := blk_cell HX3.out 5
  have q17 : w3.cell? ⟨q, 17, none⟩ = some (.bool rq.dn) := blk_cell HQ3.out 17
  have f17 : w3.frozen? ⟨q, 17, none⟩ = false := blk_frozen HQ3.out 17
  go_upto_region 12 with fail
  have HX4 := Aside0.mk (blk_far HX3.out (p := ⟨q, 17, none⟩) HE.out (.bool true))
  have HQ4 := Aside0.mk (show (w3.setCell ⟨q, 17, none⟩ (.bool true)).heap[q]? = some (.cells (rq.replied m.rc m.rv).cells 147 (0, 0)) from blk_set HQ3.out 17 _)
  have HO4 := Aside0.mk (blk_far (p := ⟨q, 17, none⟩) HO3.out hgq (.bool true))
  have HM4 := Aside0.mk (blk_far HM3.out (p := ⟨q, 17, none⟩) (Nat.ne_of_gt HLQ.out) (.bool true))
  have HR4 := Aside0.mk (R_setq HR3.out HQ3.out 17 (.bool true))
  have HB4 := Aside0.mk (Below.setCell (p := ⟨q, 17, none⟩) HB3.out hbq (.bool true))
  clear HX3 HQ3 HM3 HR3 HB3 HO3 c5 q17 f17
  generalize w3.setCell ⟨q, 17, none⟩ (.bool true) = w4 at HX4 HQ4 HM4 HR4 HB4 HO4 ⊢
  have c3 : w4.cell? ⟨c, 3, none⟩ = some (.int .i64 ep) := blk_cell HX4.out 3
  have f3 : w4.frozen? ⟨c, 3, none⟩ = false := blk_frozen HX4.out 3
  have m3 : w4.cell? ⟨W.heap.size, 3, none⟩ = some (.int .i64 m.ep) := blk_cell HM4.out 3
  go_wp2_with fail
  go_ret
  exact ⟨rfl, ⟨⟨A, cc, blk_set HX4.out 3 _, R_setc HR4.out HX4.out 3 (.int .i64 m.ep)⟩, HG.out⟩, blk_far HQ4.out (p := ⟨c, 3, none⟩) (Ne.symm HE.out) _, Below.setCell (p := ⟨c, 3, none⟩) HB4.out HG.out _, blk_far HO4.out (p := ⟨c, 3, none⟩) hgc _⟩
end Cli

end Go.Proofs.YtepkaaplhcbkbaaGreat.G
