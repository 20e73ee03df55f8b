import Derived.Test.YtmmefnllagbcfaaD5
import Derived.Deep.Upon
import Derived.Deep.QuietTactic
import Derived.Deep.RegionHeld3
import Derived.Deep.DeepCutAuto
import Derived.Deep.CutBlock
import Derived.Laws.EntriesVeiled
import Derived.StillTailTactics
import Derived.Laws.Tables
import Derived.Laws.CopyOwn
import Derived.Great.Walk
import Derived.Great.BuildSlice
import Derived.Deep.MidRow
import Derived.ArgAppend
import Derived.Maps.AppendAt
import Derived.IntWalk
import Derived.Test.YtmmefnllagbcfaaBlocks
import Derived.Laws.CopyOwn
import Derived.Laws.Tables
import Derived.Outline
namespace Go.Proofs.Ytmmefnllagbcfaa.G
open Go.RowKit Go.Proofs.YtmmefnllagbcfaaW.PrintWords Go.Proofs.YtmmefnllagbcfaaW.PrintLast Go.Proofs.YtmmefnllagbcfaaW.PrintMore
set_option linter.unusedVariables false
set_option linter.unusedSimpArgs false
namespace Dsk
set_option maxRecDepth 100000
theorem bytes_at (w : World) (e : TypeId) (s : ByteArray) (i : Nat) (hi : i < s.size) : (Lib.bytesWorld w e s).cell? ⟨w.heap.size, i, none⟩ = some (.int .u8 ((bytesOf s).getD i 0)) := by
  rw [Lib.bytesWorld_cell w e s i hi]
  have hlt2 : i < s.data.toList.length := by rw [Array.length_toList]; exact hi
  unfold bytesOf
  rw [List.getD_eq_getElem?_getD, List.getD_eq_getElem?_getD, List.getElem?_map, List.getElem?_eq_getElem hlt2]
  rfl
theorem row_blk {w : World} {base g n c : Nat} {ok : Nat → Prop} {xs : List Int} (h : Kd.R (Kd.int .u8) 5 w base ok (.slice (some ⟨g, 0, none⟩) n c) xs) (hp : 0 < xs.length) : ∃ cells, w.heap[g]? = some (.cells cells 5 (0, 0)) ∧ base ≤ g ∧ xs.length ≤ cells.size := by
  obtain ⟨g', cap, hv, hb, hlt, cells, hc⟩ := Kd.R_form h hp
  obtain rfl : g = g' := by simpa using congrArg (fun v => match v with | Value.slice (some a) _ _ => a.block | _ => 0) hv
  refine ⟨cells, hc, hb, ?_⟩
  have h1 := R_at h (xs.length - 1) (by omega)
  rw [blk_cell hc] at h1
  have := (Array.getElem?_eq_some_iff.1 h1).1
  omega
theorem kept_fit (w5 : World) (dt : ByteArray) {base g cg : Nat} {ok : Nat → Prop} (hR : Kd.R (Kd.int .u8) 5 w5 base ok (.slice (some ⟨g, 0, none⟩) (dt.size + 8) cg) (bytesOf dt ++ marks)) (hn : dt.size ≤ 1099511627776) (c2 : Nat) :
    Calls Try.prog 42 #[.slice (some ⟨g, 0, none⟩) dt.size cg, .slice (some ⟨w5.heap.size, 0, none⟩) dt.size c2] (Lib.bytesWorld w5 5 dt) fun e w' => e = .returned (.bool true) ∧ w' = Lib.bytesWorld w5 5 dt := by
  have hbl := bytesOf_len dt
  have hR2 := Kd.R_below hR (below_bytes w5 5 dt)
  have q_ := kept_calls (Lib.bytesWorld w5 5 dt) g w5.heap.size cg c2 (bytesOf dt) (fun i hi => R_at hR2 i (by simp [marks]; omega)) (fun i hi => bytes_at w5 _ dt i (by omega)) (by have := (Kd.R_reads' hR).2.1; omega) (by rw [hbl]; exact hn)
  rw [hbl] at q_
  exact q_
set_option maxHeartbeats 1600000 in
theorem act_append {W : World} {v : Value} (h : Dead W v) (nm to_ dt : ByteArray) (sz : Int) (hn : dt.size ≤ 1099511627776) : Calls Try.prog 11 #[v, .agg #[.int .i64 2, .string nm, .string to_, .string dt, .int .i64 sz]] W fun r w => r = .returned (.tuple #[.int .i64 2, .bool true]) ∧ Below W.heap.size W w := by
  have hA : Ac W (W.alloc (.cells #[.int .i64 2, .string nm, .string to_, .string dt, .int .i64 sz] 23)) 2 nm to_ dt sz v := ⟨blk_new W _, h.below (below_alloc (Below.refl _ _) _), below_alloc (Below.refl _ _) _⟩
  clear h
  have HA := Aside0.mk hA
  have hbl := bytesOf_len dt
  have HN := Aside0.mk hn
  clear hA hn
  have hcv := fun (w : World) => Lib.run_convert_string_bytes (P := Try.prog) w 9 39 5 dt Try.underlying9 Try.underlying39 Try.underlying5
  go_enter Try.func11, Try.ntmps11
  go_upto_region 1 with fail
  generalize W.alloc _ = w1 at HA ⊢
  have c0 : w1.cell? ⟨W.heap.size, 0, none⟩ = some (.int .i64 2) := blk_cell HA.out.blk 0
  have c3 : w1.cell? ⟨W.heap.size, 3, none⟩ = some (.string dt) := blk_cell HA.out.blk 3
  go_wp2_with (first
    | (go_at_call 40; have q_ := roomy_calls (Lib.bytesWorld w1 5 dt) (some ⟨w1.heap.size, 0, none⟩) (grownCap w1 dt.size 0 5) (bytesOf dt) (C_bytes w1 5 dt (by have := HN.out; omega)) (by rw [hbl]; exact HN.out); rw [hbl] at q_; refine q_.mono ?_; clear q_; rintro r w3 ⟨g, cg, rfl, hR_, hB_⟩; (have HR3 := Aside0.mk hR_); (have HA3 := Aside0.mk ((HA.out.below (below_bytes w1 5 dt)).below hB_)); (have HS3 := Aside0.mk (And.intro (below_bytes w1 5 dt).size hB_.size)); clear hR_ hB_; (have d1 : w3.cell? ⟨W.heap.size, 1, none⟩ = some (.string nm) := blk_cell HA3.out.blk 1))
    | (go_at_call 41; refine (append_dead HA3.out.dead _ _).mono ?_; rintro r w5 ⟨rfl, hb⟩; (have HA5 := Aside0.mk (HA3.out.below hb)); (have HB5 := Aside0.mk hb); clear hb d1; (have e3 : w5.cell? ⟨W.heap.size, 3, none⟩ = some (.string dt) := blk_cell HA5.out.blk 3))
    | (go_at_call 42; refine (kept_fit w5 dt (Kd.R_below HR3.out HB5.out) HN.out _).mono ?_; rintro r w6 ⟨rfl, hw⟩; subst hw)
    | fail)
  have HA6 := Aside0.mk (HA5.out.below (below_bytes w5 5 dt))
  have HR6 := Aside0.mk (Kd.R_below (Kd.R_below HR3.out HB5.out) (below_bytes w5 5 dt))
  generalize Lib.bytesWorld w5 5 dt = w6 at HA6 HR6 ⊢
  obtain ⟨cells, hcl, hbg, hsz⟩ := row_blk HR6.out (by simp [marks])
  have hsz2 : dt.size ≤ cells.size := by rw [List.length_append, hbl] at hsz; omega
  have hWg : W.heap.size ≤ g := by have h1 := HS3.out.1; have h2 := HA.out.bel.size; omega
  have H0 : Aside0 (∃ cs : Array Value, w6.heap[g]? = some (.cells cs 5 (0, 0)) ∧ dt.size ≤ cs.size ∧ Below W.heap.size W w6) := ⟨⟨cells, hcl, hsz2, HA6.out.bel⟩⟩
  clear hcl hsz hsz2 hbg HA6 HR6 HA5 HB5 HA3 HR3 HS3 e3 HA c0 c3 hcv hbl
  have HWG := Aside0.mk hWg
  clear hWg
  go_loopw [9] (fun v wr => ∃ k : Nat, v = .int .i64 k ∧ k ≤ dt.size ∧ Aside0 (∃ cs : Array Value, wr.heap[g]? = some (.cells cs 5 (0, 0)) ∧ dt.size ≤ cs.size ∧ Below W.heap.size W wr)) (fun v _ => dt.size - (intOf v).toNat)
  case atStart => exact ⟨0, rfl, Nat.zero_le _, H0⟩
  case round =>
    obtain ⟨k, rfl, hk, HP⟩ := hrel
    by_cases hlt : k < dt.size
    · obtain ⟨cs, hcs, hle, hbel⟩ := HP.out
      obtain ⟨x, hx⟩ : ∃ x, cs[k]? = some x := ⟨cs[k], Array.getElem?_eq_getElem (by omega)⟩
      have gk : wr.cell? ⟨g, k, none⟩ = some x := (blk_cell hcs k).trans hx
      have fk : wr.frozen? ⟨g, k, none⟩ = false := blk_frozen hcs k
      have w4 : IntKind.i64.wrap ((k : Int) + 1) = (k : Int) + 1 := IntWalk.i64_in _ (by have := HN.out; omega)
      have hki : (k : Int) < (dt.size : Int) := by omega
      have hk0 : (0 : Int) ≤ (k : Int) := by omega
      have HQ : Aside0 (∃ cs : Array Value, (wr.setCell ⟨g, k, none⟩ (.int .u8 77)).heap[g]? = some (.cells cs 5 (0, 0)) ∧ dt.size ≤ cs.size ∧ Below W.heap.size W (wr.setCell ⟨g, k, none⟩ (.int .u8 77))) := ⟨⟨_, blk_set hcs k _, by simpa using hle, hbel.setCell HWG.out _⟩⟩
      clear hcs hx hbel hle HP H0
      go_wp2_with fail
      go_roundw
      case rel => exact ⟨k + 1, by push_cast; rfl, by omega, HQ⟩
      case measure => simp [intOf]; omega
    · have h8 : k = dt.size := by omega
      subst h8
      clear H0 hlt hk
      go_wp2_with (first | (go_at_call 17; refine (num_calls _ _).mono ?_; rintro r w7 ⟨rfl, hw⟩; subst hw) | fail)
      go_ret2
      obtain ⟨cs, _, _, hbel⟩ := HP.out
      exact ⟨rfl, hbel⟩
end Dsk

end Go.Proofs.Ytmmefnllagbcfaa.G
