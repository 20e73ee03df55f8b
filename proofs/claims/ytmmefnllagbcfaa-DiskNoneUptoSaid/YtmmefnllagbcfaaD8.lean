import Derived.Test.YtmmefnllagbcfaaD7
import Derived.Deep.Upon
import Derived.Deep.QuietTactic
import Derived.Deep.RegionHeld3
import Derived.Deep.DeepCutAuto
import Derived.Deep.CutBlock
import Derived.Laws.EntriesVeiled
import Derived.StillTailTactics
import Derived.Laws.Tables
import Derived.Laws.CopyOwn
import Derived.Great.Walk
import Derived.Great.BuildSlice
import Derived.Deep.MidRow
import Derived.ArgAppend
import Derived.Maps.AppendAt
import Derived.IntWalk
import Derived.Test.YtmmefnllagbcfaaBlocks
import Derived.Laws.CopyOwn
import Derived.Laws.Tables
import Derived.Outline
namespace Go.Proofs.Ytmmefnllagbcfaa.G
open Go.RowKit Go.Proofs.YtmmefnllagbcfaaW.PrintWords Go.Proofs.YtmmefnllagbcfaaW.PrintLast Go.Proofs.YtmmefnllagbcfaaW.PrintMore
set_option linter.unusedVariables false
set_option linter.unusedSimpArgs false
namespace Dsk
set_option maxRecDepth 100000
theorem Dead.drewN {W : World} {v : Value} (h : Dead W v) (n : Nat) : Dead (W.drewN n) v := h.below (Drawn0.below ⟨n, rfl⟩)
theorem act_dead {W : World} {v : Value} (h : Dead W v) (kd : Int) (nm to_ dt : ByteArray) (sz : Int) (h1 : 1 ≤ kd) (h6 : kd ≤ 6) (hn : dt.size ≤ 1099511627776) : Calls Try.prog 11 #[v, .agg #[.int .i64 kd, .string nm, .string to_, .string dt, .int .i64 sz]] W fun r w => r = .returned (.tuple #[.int .i64 2, .bool true]) ∧ Below W.heap.size W w := by
  by_cases h2 : kd = 2
  · subst h2
    exact act_append h nm to_ dt sz hn
  · exact act_other h kd nm to_ dt sz (by omega)
structure Dk (W w : World) (cs : Array Value) (z sl : Nat) : Prop where
  op : w.heap[W.heap.size]? = some (.cells cs 25 (0, 0))
  sl : w.heap[sl]? = some (.cells #[.pointer none, .pointer (some ⟨z, 0, none⟩)] 26 (0, 0))
  z : w.cell? ⟨z, 1, none⟩ = some (.map none)
  bel : Below W.heap.size W w
theorem Dk.below {W w w' : World} {cs : Array Value} {z sl : Nat} (h : Dk W w cs z sl) (hB : Below w.heap.size w w') : Dk W w' cs z sl := by
  refine ⟨blk_below h.op hB, blk_below h.sl hB, ?_, h.bel.trans (below_weaken' hB h.bel.size)⟩
  exact (hB.cell (p := ⟨z, 1, none⟩) (World.block_lt_of_cell? w _ h.z)).trans h.z
abbrev Dk2 (W w : World) (cs : Array Value) (z sl : Nat) (v : Value) : Prop := Dk W w cs z sl ∧ Dead w v
theorem Dk2.below {W w w' : World} {cs : Array Value} {z sl : Nat} {v : Value} (h : Dk2 W w cs z sl v) (hB : Below w.heap.size w w') : Dk2 W w' cs z sl v := ⟨h.1.below hB, h.2.below hB⟩
set_option maxHeartbeats 4000000 in
theorem none_calls (W : World) (kd : Int) (nm to_ dt : ByteArray) (sz k2 n : Int) (hn : dt.size ≤ 1099511627776) : Calls Try.prog 3 #[.agg #[.int .i64 kd, .string nm, .string to_, .string dt, .int .i64 sz, .int .i64 k2, .int .i64 n]] W fun r w => r = .returned (.bool true) ∧ Below W.heap.size W w := by
  have HN := Aside0.mk hn
  have HO1 := Aside0.mk (blk_new W (.cells #[.int .i64 kd, .string nm, .string to_, .string dt, .int .i64 sz, .int .i64 k2, .int .i64 n] 25))
  have HB1 := Aside0.mk (below_alloc (Below.refl W.heap.size W) (.cells #[.int .i64 kd, .string nm, .string to_, .string dt, .int .i64 sz, .int .i64 k2, .int .i64 n] 25))
  clear hn
  go_enter Try.func3, Try.ntmps3
  go_upto_region 1 with fail
  generalize W.alloc _ = w1 at HO1 HB1 ⊢
  go_wp2_with (first | (go_at_call 10; refine (new_calls _).mono ?_; rintro r w2 ⟨rfl, hm, hd, hb⟩; (have HB2 := Aside0.mk hb); clear hm hd hb) | fail)
  have HM0 : Aside0 (Dk W (w2.alloc (.cells #[.pointer none, .pointer (some ⟨w1.heap.size, 0, none⟩)] 26)) #[.int .i64 kd, .string nm, .string to_, .string dt, .int .i64 sz, .int .i64 k2, .int .i64 n] w1.heap.size w2.heap.size) := ⟨⟨blk_alloc (blk_below (blk_alloc HO1.out (.cells #[.int .i64 0, .map none, .map none, .slice none 0 0, .int .i64 0, .int .i64 0, .int .i64 0, .bool false] 31)) HB2.out) _, blk_new w2 _, blk_cell (blk_alloc (blk_below (blk_new w1 (.cells #[.int .i64 0, .map none, .map none, .slice none 0 0, .int .i64 0, .int .i64 0, .int .i64 0, .bool false] 31)) HB2.out) _) 1, by
    have h1 : Below W.heap.size W (w1.alloc (.cells #[.int .i64 0, .map none, .map none, .slice none 0 0, .int .i64 0, .int .i64 0, .int .i64 0, .bool false] 31)) := HB1.out.alloc HB1.out.size _
    have h2 := h1.trans (below_weaken' HB2.out h1.size)
    exact h2.alloc h2.size _⟩⟩
  generalize w2.alloc (.cells #[.pointer none, .pointer (some ⟨w1.heap.size, 0, none⟩)] 26) = w3 at HM0 ⊢
  generalize w2.heap.size = sl at HM0 ⊢
  generalize w1.heap.size = z at HM0 ⊢
  generalize z + 1 + 1 = dd
  clear HO1 HB1 HB2
  go_loopw [22] (fun v wr => ∃ k : Nat, v = .int .i64 k ∧ k ≤ 2 ∧ Aside0 (Dk W wr #[.int .i64 kd, .string nm, .string to_, .string dt, .int .i64 sz, .int .i64 k2, .int .i64 n] z sl)) (fun v _ => 2 - (intOf v).toNat)
  case atStart => exact ⟨0, rfl, by omega, HM0⟩
  case round =>
    obtain ⟨k, rfl, hk, HP⟩ := hrel
    by_cases hlt : k < 2
    · obtain ⟨v, hv, hd⟩ : ∃ v, wr.cell? ⟨sl, k, none⟩ = some v ∧ Dead wr v := by
        have h1 := blk_cell HP.out.sl k
        have : k = 0 ∨ k = 1 := by omega
        rcases this with rfl | rfl
        · exact ⟨_, h1, .inl rfl⟩
        · exact ⟨_, h1, .inr ⟨z, rfl, HP.out.z⟩⟩
      have HM := Aside0.mk (show Dk2 W wr #[.int .i64 kd, .string nm, .string to_, .string dt, .int .i64 sz, .int .i64 k2, .int .i64 n] z sl v from ⟨HP.out, hd⟩)
      have hki : (k : Int) < 2 := by omega
      have hk0 : (0 : Int) ≤ (k : Int) := by omega
      have w4 : IntKind.i64.wrap ((k : Int) + 1) = (k : Int) + 1 := IntWalk.i64_in _ (by omega)
      have o0 : wr.cell? ⟨W.heap.size, 0, none⟩ = some (.int .i64 kd) := blk_cell HP.out.op 0
      have o1 : wr.cell? ⟨W.heap.size, 1, none⟩ = some (.string nm) := blk_cell HP.out.op 1
      have o2 : wr.cell? ⟨W.heap.size, 2, none⟩ = some (.string to_) := blk_cell HP.out.op 2
      have o3 : wr.cell? ⟨W.heap.size, 3, none⟩ = some (.string dt) := blk_cell HP.out.op 3
      have o4 : wr.cell? ⟨W.heap.size, 4, none⟩ = some (.int .i64 sz) := blk_cell HP.out.op 4
      have o6 : wr.cell? ⟨W.heap.size, 6, none⟩ = some (.int .i64 n) := blk_cell HP.out.op 6
      clear hd hlt HP HM0
      by_cases hlo : 1 ≤ kd
      · have b1 : decide (1 ≤ kd) = true := decide_eq_true hlo
        by_cases hhi : kd ≤ 6
        · have b2 : decide (kd ≤ 6) = true := decide_eq_true hhi
          go_upto_region 18 with (first
            | (go_at_call 11; refine (act_dead HM.out.2 _ _ _ _ _ hlo hhi HN.out).mono ?_; rintro r w3 ⟨rfl, hb⟩; (have HM3 := Aside0.mk (HM.out.below hb)); clear hb o0 o1 o2 o3 o4 o6; (have p1 : w3.cell? ⟨W.heap.size, 1, none⟩ = some (.string nm) := blk_cell HM3.out.1.op 1); (have p6 : w3.cell? ⟨W.heap.size, 6, none⟩ = some (.int .i64 n) := blk_cell HM3.out.1.op 6); clear HM; (have HM := HM3); clear HM3)
            | (go_at_call 12; refine (fail_dead HM.out.2 _).mono ?_; rintro r w4 ⟨rfl, hw⟩; subst hw)
            | (go_at_call 13; refine (crash_dead HM.out.2 _).mono ?_; rintro r w4 ⟨rfl, hw⟩; subst hw)
            | (go_at_call 14; refine (start_dead HM.out.2).mono ?_; rintro r w4 ⟨rfl, hw⟩; subst hw)
            | (go_at_call 15; refine (read_dead HM.out.2 _).mono ?_; rintro r w5 ⟨rfl, hb⟩; (have HM5 := Aside0.mk (HM.out.below hb)); clear hb; (have q1 : w5.cell? ⟨W.heap.size, 1, none⟩ = some (.string nm) := blk_cell HM5.out.1.op 1))
            | (go_at_call 16; refine (size_dead HM5.out.2 _).mono ?_; rintro r w6 ⟨rfl, hb⟩; (have HM6 := Aside0.mk (HM5.out.below hb)); clear hb; (have s6 : w6.cell? ⟨W.heap.size, 6, none⟩ = some (.int .i64 n) := blk_cell HM6.out.1.op 6))
            | (go_at_call 17; refine (num_calls _ _).mono ?_; rintro r w7 ⟨rfl, hw⟩; subst hw)
            | (go_at_call 18; refine (down_dead HM6.out.2).mono ?_; rintro r w8 ⟨rfl, hw⟩; subst hw)
            | fail)
          go_quiet (first
            | (go_at_call 19; exact Calls.quiet_of_same (names_dead (HM6.out.2.drewN _)))
            | (go_at_call 20; exact Calls.quiet_of_same (files_dead (HM6.out.2.drewN _)))
            | (go_at_call 21; exact Calls.quiet_of_same (left_dead (HM6.out.2.drewN _) _))
            | (go_at_call 22; exact Calls.quiet_of_same (free_dead (HM6.out.2.drewN _)))
            | (go_at_call 23; exact Calls.quiet_of_same (acts_dead (HM6.out.2.drewN _)))
            | (go_at_call 24; exact Calls.quiet_of_same (pending_dead (HM6.out.2.drewN _))))
          go_wp2_with fail
          go_roundw
          case rel => exact ⟨k + 1, by push_cast; rfl, by omega, ⟨HM6.out.1.below (Drawn0.below ⟨nq, rfl⟩)⟩⟩
          case measure => simp [intOf]; omega
        · have b2 : decide (kd ≤ 6) = false := decide_eq_false hhi
          go_upto_region 18 with (first
            | (go_at_call 11; refine (act_dead HM.out.2 _ _ _ _ _ hlo hhi HN.out).mono ?_; rintro r w3 ⟨rfl, hb⟩; (have HM3 := Aside0.mk (HM.out.below hb)); clear hb o0 o1 o2 o3 o4 o6; (have p1 : w3.cell? ⟨W.heap.size, 1, none⟩ = some (.string nm) := blk_cell HM3.out.1.op 1); (have p6 : w3.cell? ⟨W.heap.size, 6, none⟩ = some (.int .i64 n) := blk_cell HM3.out.1.op 6); clear HM; (have HM := HM3); clear HM3)
            | (go_at_call 12; refine (fail_dead HM.out.2 _).mono ?_; rintro r w4 ⟨rfl, hw⟩; subst hw)
            | (go_at_call 13; refine (crash_dead HM.out.2 _).mono ?_; rintro r w4 ⟨rfl, hw⟩; subst hw)
            | (go_at_call 14; refine (start_dead HM.out.2).mono ?_; rintro r w4 ⟨rfl, hw⟩; subst hw)
            | (go_at_call 15; refine (read_dead HM.out.2 _).mono ?_; rintro r w5 ⟨rfl, hb⟩; (have HM5 := Aside0.mk (HM.out.below hb)); clear hb; (have q1 : w5.cell? ⟨W.heap.size, 1, none⟩ = some (.string nm) := blk_cell HM5.out.1.op 1))
            | (go_at_call 16; refine (size_dead HM5.out.2 _).mono ?_; rintro r w6 ⟨rfl, hb⟩; (have HM6 := Aside0.mk (HM5.out.below hb)); clear hb; (have s6 : w6.cell? ⟨W.heap.size, 6, none⟩ = some (.int .i64 n) := blk_cell HM6.out.1.op 6))
            | (go_at_call 17; refine (num_calls _ _).mono ?_; rintro r w7 ⟨rfl, hw⟩; subst hw)
            | (go_at_call 18; refine (down_dead HM6.out.2).mono ?_; rintro r w8 ⟨rfl, hw⟩; subst hw)
            | fail)
          go_quiet (first
            | (go_at_call 19; exact Calls.quiet_of_same (names_dead (HM6.out.2.drewN _)))
            | (go_at_call 20; exact Calls.quiet_of_same (files_dead (HM6.out.2.drewN _)))
            | (go_at_call 21; exact Calls.quiet_of_same (left_dead (HM6.out.2.drewN _) _))
            | (go_at_call 22; exact Calls.quiet_of_same (free_dead (HM6.out.2.drewN _)))
            | (go_at_call 23; exact Calls.quiet_of_same (acts_dead (HM6.out.2.drewN _)))
            | (go_at_call 24; exact Calls.quiet_of_same (pending_dead (HM6.out.2.drewN _))))
          go_wp2_with fail
          go_roundw
          case rel => exact ⟨k + 1, by push_cast; rfl, by omega, ⟨HM6.out.1.below (Drawn0.below ⟨nq, rfl⟩)⟩⟩
          case measure => simp [intOf]; omega
      · have b1 : decide (1 ≤ kd) = false := decide_eq_false hlo
        have hhi : True := trivial
        · skip
          go_upto_region 18 with (first
            | (go_at_call 11; refine (act_dead HM.out.2 _ _ _ _ _ hlo hhi HN.out).mono ?_; rintro r w3 ⟨rfl, hb⟩; (have HM3 := Aside0.mk (HM.out.below hb)); clear hb o0 o1 o2 o3 o4 o6; (have p1 : w3.cell? ⟨W.heap.size, 1, none⟩ = some (.string nm) := blk_cell HM3.out.1.op 1); (have p6 : w3.cell? ⟨W.heap.size, 6, none⟩ = some (.int .i64 n) := blk_cell HM3.out.1.op 6); clear HM; (have HM := HM3); clear HM3)
            | (go_at_call 12; refine (fail_dead HM.out.2 _).mono ?_; rintro r w4 ⟨rfl, hw⟩; subst hw)
            | (go_at_call 13; refine (crash_dead HM.out.2 _).mono ?_; rintro r w4 ⟨rfl, hw⟩; subst hw)
            | (go_at_call 14; refine (start_dead HM.out.2).mono ?_; rintro r w4 ⟨rfl, hw⟩; subst hw)
            | (go_at_call 15; refine (read_dead HM.out.2 _).mono ?_; rintro r w5 ⟨rfl, hb⟩; (have HM5 := Aside0.mk (HM.out.below hb)); clear hb; (have q1 : w5.cell? ⟨W.heap.size, 1, none⟩ = some (.string nm) := blk_cell HM5.out.1.op 1))
            | (go_at_call 16; refine (size_dead HM5.out.2 _).mono ?_; rintro r w6 ⟨rfl, hb⟩; (have HM6 := Aside0.mk (HM5.out.below hb)); clear hb; (have s6 : w6.cell? ⟨W.heap.size, 6, none⟩ = some (.int .i64 n) := blk_cell HM6.out.1.op 6))
            | (go_at_call 17; refine (num_calls _ _).mono ?_; rintro r w7 ⟨rfl, hw⟩; subst hw)
            | (go_at_call 18; refine (down_dead HM6.out.2).mono ?_; rintro r w8 ⟨rfl, hw⟩; subst hw)
            | fail)
          go_quiet (first
            | (go_at_call 19; exact Calls.quiet_of_same (names_dead (HM6.out.2.drewN _)))
            | (go_at_call 20; exact Calls.quiet_of_same (files_dead (HM6.out.2.drewN _)))
            | (go_at_call 21; exact Calls.quiet_of_same (left_dead (HM6.out.2.drewN _) _))
            | (go_at_call 22; exact Calls.quiet_of_same (free_dead (HM6.out.2.drewN _)))
            | (go_at_call 23; exact Calls.quiet_of_same (acts_dead (HM6.out.2.drewN _)))
            | (go_at_call 24; exact Calls.quiet_of_same (pending_dead (HM6.out.2.drewN _))))
          go_wp2_with fail
          go_roundw
          case rel => exact ⟨k + 1, by push_cast; rfl, by omega, ⟨HM6.out.1.below (Drawn0.below ⟨nq, rfl⟩)⟩⟩
          case measure => simp [intOf]; omega
    · have h2 : k = 2 := by omega
      subst h2
      have HP2 := HP
      clear HP HM0 hlt hk
      go_wp2_with (first | (go_at_call 17; refine (num_calls _ _).mono ?_; rintro r w7 ⟨rfl, hw⟩; subst hw) | fail)
      go_ret
      exact ⟨rfl, HP2.out.bel⟩
end Dsk

end Go.Proofs.Ytmmefnllagbcfaa.G
