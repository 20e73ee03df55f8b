import Derived.Test.YtepkaaplhcbkbaaGreatT17
import Derived.Test.YtepkaaplhcbkbaaGreatGx4
import Derived.Test.YtepkaaplhcbkbaaGreatGx6
import Derived.Deep.Upon
import Derived.Deep.QuietTactic
import Derived.BigQuiet
import Derived.Deep.RegionHeld3
import Derived.Deep.DeepCutAuto
import Derived.Deep.CutBlock
import Derived.Laws.EntriesVeiled
import Derived.StillTailTactics
import Derived.Laws.Tables
import Derived.Laws.CopyOwn
import Derived.Great.Walk
import Derived.Great.BuildSlice
import Derived.Deep.MidRow
import Derived.IntWalk
import Derived.Test.YtepkaaplhcbkbaaGreatBlocks
import Derived.Laws.CopyOwn
import Derived.Laws.Tables
import Derived.Outline
namespace Go.Proofs.YtepkaaplhcbkbaaGreat.G
open Go.RowKit Go.Proofs.YtepkaaplhcbkbaaGreatW.PrintWords Go.Proofs.YtepkaaplhcbkbaaGreatW.PrintLast Go.Proofs.YtepkaaplhcbkbaaGreatW.PrintMore
set_option linter.unusedVariables false
set_option linter.unusedSimpArgs false
namespace Cli
open Msg
set_option maxRecDepth 100000
structure Mk (W w : World) (cs : Array Value) (z sl : Nat) : Prop where
  op : w.heap[W.heap.size]? = some (.cells cs 64 (0, 0))
  sl : w.heap[sl]? = some (.cells #[.pointer none, .pointer (some ⟨z, 0, none⟩)] 65 (0, 0))
  z : w.heap[z]? = some (.cells #[.int .i64 0, .int .i64 0, .slice none 0 0, .int .i64 0, .int .i64 0, .pointer none] 68 (0, 0))
  bel : Below W.heap.size W w
theorem Mk.below {W w w' : World} {cs : Array Value} {z sl : Nat} (h : Mk W w cs z sl) (hB : Below w.heap.size w w') : Mk W w' cs z sl :=
  ⟨blk_below h.op hB, blk_below h.sl hB, blk_below h.z hB, h.bel.trans (below_weaken' hB h.bel.size)⟩
abbrev Mk2 (W w : World) (cs : Array Value) (z sl : Nat) (v : Value) : Prop := Mk W w cs z sl ∧ Dead w v
theorem Mk2.below {W w w' : World} {cs : Array Value} {z sl : Nat} {v : Value} (h : Mk2 W w cs z sl v) (hB : Below w.heap.size w w') : Mk2 W w' cs z sl v := ⟨h.1.below hB, h.2.below hB⟩
theorem neq_calls (w : World) : (binOp .neq 77 (.agg #[.int .i64 0, .int .i64 0, .bool false, .string ⟨#[]⟩, .int .i64 0, .string ⟨#[]⟩, .string ⟨#[]⟩, .int .i64 0, .int .i64 0, .int .i64 0, .int .i64 0, .int .i64 0, .string ⟨#[]⟩, .string ⟨#[]⟩, .int .i64 0, .bool false]) (.agg #[.int .i64 0, .int .i64 0, .bool false, .string ⟨#[]⟩, .int .i64 0, .string ⟨#[]⟩, .string ⟨#[]⟩, .int .i64 0, .int .i64 0, .int .i64 0, .int .i64 0, .int .i64 0, .string ⟨#[]⟩, .string ⟨#[]⟩, .int .i64 0, .bool false])).run Tryz.prog w = .ok (.bool false) w := by kernel_rfl
theorem fld0 (w : World) : (Instr.field 41 (.agg #[.int .i64 0, .slice none 0 0]) 0).run Tryz.prog w = .ok (.int .i64 0) w := by kernel_rfl
theorem fld1 (w : World) : (Instr.field 41 (.agg #[.int .i64 0, .slice none 0 0]) 1).run Tryz.prog w = .ok (.slice none 0 0) w := by kernel_rfl
set_option maxHeartbeats 2000000 in
theorem made_calls (W : World) (cs : Array Value) (hcs : cs.size = 48) : Calls Tryz.prog 8 #[.agg cs] W fun r w => r = .returned (.bool true) ∧ Below W.heap.size W w := by
  obtain ⟨us4, h4⟩ : ∃ l, l = (cs.toList.drop 1).take 4 := ⟨_, rfl⟩
  obtain ⟨us37, h37⟩ : ∃ l, l = (cs.toList.drop 11).take 37 := ⟨_, rfl⟩
  have HI4 : Aside0 ((Tryz.prog.info? 32).map (·.size) = some us4.length) := ⟨by
    have : us4.length = 4 := by rw [h4, List.length_take, List.length_drop, Array.length_toList, hcs]; rfl
    have e : (Tryz.prog.info? 32).map (·.size) = some 4 := by kernel_rfl
    rw [this]; exact e⟩
  have HI37 : Aside0 ((Tryz.prog.info? 49).map (·.size) = some us37.length) := ⟨by
    have : us37.length = 37 := by rw [h37, List.length_take, List.length_drop, Array.length_toList, hcs]; rfl
    have e : (Tryz.prog.info? 49).map (·.size) = some 37 := by kernel_rfl
    rw [this]; exact e⟩
  have HR4 : Aside0 (∀ w z sl, Mk W w cs z sl → w.rangeAt W.heap.size 1 us4) := ⟨fun w z sl h => h4 ▸ range_drop h.op 1 4⟩
  have HR37 : Aside0 (∀ w z sl, Mk W w cs z sl → w.rangeAt W.heap.size 11 us37) := ⟨fun w z sl h => h37 ▸ range_drop h.op 11 37⟩
  obtain ⟨x5, hx5⟩ : ∃ u, cs[5]? = some u := ⟨cs[5], Array.getElem?_eq_getElem (by omega)⟩
  obtain ⟨x6, hx6⟩ : ∃ u, cs[6]? = some u := ⟨cs[6], Array.getElem?_eq_getElem (by omega)⟩
  have HU5 := Aside0.mk hx5
  have HU6 := Aside0.mk hx6
  have HT4 := Aside0.mk Tryz.underlying32
  have HT37 := Aside0.mk Tryz.underlying49
  have HT16 := Aside0.mk Tryz.underlying77
  have HI16 : Aside0 ((Tryz.prog.info? 77).map (·.size) = some 16) := ⟨by kernel_rfl⟩
  have HO1 := Aside0.mk (blk_new W (.cells cs 64))
  have HB1 := Aside0.mk (below_alloc (Below.refl W.heap.size W) (.cells cs 64))
  clear h4 h37 hx5 hx6 hcs
  go_enter Tryz.func8, Tryz.ntmps8
  go_upto_region 1 with fail
  generalize W.alloc (.cells cs 64) = w1 at HO1 HB1 ⊢
  go_wp2_with fail
  have HM0 : Aside0 (Mk W ((w1.alloc (.cells #[.int .i64 0, .int .i64 0, .slice none 0 0, .int .i64 0, .int .i64 0, .pointer none] 68)).alloc (.cells #[.pointer none, .pointer (some ⟨w1.heap.size, 0, none⟩)] 65)) cs w1.heap.size (w1.heap.size + 1)) := ⟨⟨blk_alloc (blk_alloc HO1.out _) _, new2 w1 _ _, blk_alloc (blk_new w1 _) _, (HB1.out.alloc HB1.out.size _).alloc (by have := HB1.out.size; simp; omega) _⟩⟩
  generalize (w1.alloc (.cells #[.int .i64 0, .int .i64 0, .slice none 0 0, .int .i64 0, .int .i64 0, .pointer none] 68)).alloc (.cells #[.pointer none, .pointer (some ⟨w1.heap.size, 0, none⟩)] 65) = w2 at HM0 ⊢
  generalize w1.heap.size = z at HM0 ⊢
  generalize z + 1 = sl at HM0 ⊢
  clear HO1 HB1
  go_loopw [18] (fun v wr => ∃ k : Nat, v = .int .i64 k ∧ k ≤ 2 ∧ Aside0 (Mk W wr cs z sl)) (fun v _ => 2 - (intOf v).toNat)
  case atStart => exact ⟨0, rfl, by omega, HM0⟩
  case round =>
    obtain ⟨k, rfl, hk, HP⟩ := hrel
    by_cases hlt : k < 2
    · obtain ⟨v, hv, hd⟩ : ∃ v, wr.cell? ⟨sl, k, none⟩ = some v ∧ Dead wr v := by
        have h1 := blk_cell HP.out.sl k
        have : k = 0 ∨ k = 1 := by omega
        rcases this with rfl | rfl
        · exact ⟨_, h1, .inl rfl⟩
        · exact ⟨_, h1, .inr ⟨z, rfl, blk_cell HP.out.z 0⟩⟩
      have HM := Aside0.mk (show Mk2 W wr cs z sl v from ⟨HP.out, hd⟩)
      have hki : (k : Int) < 2 := by omega
      have hk0 : (0 : Int) ≤ (k : Int) := by omega
      clear hd hlt HP HM0
      go_upto_region 10 with (first
        | (go_at_call 27; refine (submit_dead HM.out.2 _).mono ?_; rintro r w3 ⟨rfl, hb⟩; (have HM3 := Aside0.mk (HM.out.below hb)); clear HM hb; (have o5 : w3.cell? ⟨W.heap.size, 5, none⟩ = some x5 := (blk_cell HM3.out.1.op 5).trans HU5.out); (have o6 : w3.cell? ⟨W.heap.size, 6, none⟩ = some x6 := (blk_cell HM3.out.1.op 6).trans HU6.out))
        | (go_at_call 28; refine (read_dead HM3.out.2 _ _).mono ?_; rintro r w4 ⟨rfl, hw⟩; subst hw)
        | (go_at_call 29; refine (take_dead HM3.out.2 _).mono ?_; rintro r w5 ⟨rfl, hb⟩; (have HM5 := Aside0.mk (HM3.out.below hb)); clear HM3 hb o5 o6)
        | (go_at_call 30; refine (last_dead HM5.out.2).mono ?_; rintro r w6 ⟨rfl, hb⟩; (have HM6 := Aside0.mk (HM5.out.below hb)); clear HM5 hb)
        | ((with_reducible refine wpList_load_mid rfl 32 (.tmp 24) rfl W.heap.size 1 ?_ us4 _ (HR4.out _ _ _ HM.out.1) HT4.out ?_ HI4.out ?_); (· rfl); (· rfl))
        | ((with_reducible refine wpList_load_mid rfl 49 (.tmp 40) rfl W.heap.size 11 ?_ us37 _ (HR37.out _ _ _ HM3.out.1) HT37.out ?_ HI37.out ?_); (· rfl); (· rfl))
        | ((with_reducible refine wpList_store_row rfl 77 (.tmp 13) (.tmp 48) rfl w6.heap.size zero16 ?d1 ?d2 77 zero16 ?c1 ?c2 ?c3 ?c4 ?_); (case d1 => rfl); (case d2 => rfl); (case c1 => exact blk_new w6 _); (case c2 => exact HI16.out); (case c3 => rfl); (case c4 => kernel_rfl))
        | go_in)
      have HM7 := Aside0.mk (HM6.out.below (below_setRow (below_alloc (Below.refl w6.heap.size w6) (.cells #[.int .i64 0, .int .i64 0, .bool false, .string ⟨#[]⟩, .int .i64 0, .string ⟨#[]⟩, .string ⟨#[]⟩, .int .i64 0, .int .i64 0, .int .i64 0, .int .i64 0, .int .i64 0, .string ⟨#[]⟩, .string ⟨#[]⟩, .int .i64 0, .bool false] 77)) (Nat.le_refl _) zero16))
      have HL7 := Aside0.mk (setRow_heap (w6.alloc (.cells #[.int .i64 0, .int .i64 0, .bool false, .string ⟨#[]⟩, .int .i64 0, .string ⟨#[]⟩, .string ⟨#[]⟩, .int .i64 0, .int .i64 0, .int .i64 0, .int .i64 0, .int .i64 0, .string ⟨#[]⟩, .string ⟨#[]⟩, .int .i64 0, .bool false] 77)) w6.heap.size _ zero16 _ (0, 0) (blk_new _ _))
      generalize (w6.alloc (.cells #[.int .i64 0, .int .i64 0, .bool false, .string ⟨#[]⟩, .int .i64 0, .string ⟨#[]⟩, .string ⟨#[]⟩, .int .i64 0, .int .i64 0, .int .i64 0, .int .i64 0, .int .i64 0, .string ⟨#[]⟩, .string ⟨#[]⟩, .int .i64 0, .bool false] 77)).setRow w6.heap.size zero16 = w7 at HM7 HL7 ⊢
      generalize w6.heap.size = lb at HL7 ⊢
      clear HM6
      have l0 : w7.cell? ⟨lb, 0, none⟩ = some (.int .i64 0) := blk_cell HL7.out 0
      have l1 : w7.cell? ⟨lb, 1, none⟩ = some (.int .i64 0) := blk_cell HL7.out 1
      have l2 : w7.cell? ⟨lb, 2, none⟩ = some (.bool false) := blk_cell HL7.out 2
      have l3 : w7.cell? ⟨lb, 3, none⟩ = some (.string ⟨#[]⟩) := blk_cell HL7.out 3
      have l4 : w7.cell? ⟨lb, 4, none⟩ = some (.int .i64 0) := blk_cell HL7.out 4
      have l5 : w7.cell? ⟨lb, 5, none⟩ = some (.string ⟨#[]⟩) := blk_cell HL7.out 5
      have l6 : w7.cell? ⟨lb, 6, none⟩ = some (.string ⟨#[]⟩) := blk_cell HL7.out 6
      have l7 : w7.cell? ⟨lb, 7, none⟩ = some (.int .i64 0) := blk_cell HL7.out 7
      have l8 : w7.cell? ⟨lb, 8, none⟩ = some (.int .i64 0) := blk_cell HL7.out 8
      have l9 : w7.cell? ⟨lb, 9, none⟩ = some (.int .i64 0) := blk_cell HL7.out 9
      have l10 : w7.cell? ⟨lb, 10, none⟩ = some (.int .i64 0) := blk_cell HL7.out 10
      have l11 : w7.cell? ⟨lb, 11, none⟩ = some (.int .i64 0) := blk_cell HL7.out 11
      have l12 : w7.cell? ⟨lb, 12, none⟩ = some (.string ⟨#[]⟩) := blk_cell HL7.out 12
      have l13 : w7.cell? ⟨lb, 13, none⟩ = some (.string ⟨#[]⟩) := blk_cell HL7.out 13
      have l14 : w7.cell? ⟨lb, 14, none⟩ = some (.int .i64 0) := blk_cell HL7.out 14
      have l15 : w7.cell? ⟨lb, 15, none⟩ = some (.bool false) := blk_cell HL7.out 15
      have hneq := fun w => neq_calls w
      have hf0 := fun w => fld0 w
      have hf1 := fun w => fld1 w
      go_wp2_with (first
        | (go_at_call 31; refine (retry_dead HM7.out.2).mono ?_; rintro r w8 ⟨rfl, hw⟩; subst hw)
        | (go_at_call 32; refine (waits_dead HM7.out.2).mono ?_; rintro r w8 ⟨rfl, hw⟩; subst hw)
        | (go_at_call 33; refine (epoch_dead HM7.out.2).mono ?_; rintro r w8 ⟨rfl, hw⟩; subst hw)
        | (go_at_call 34; refine (config_dead HM8.out.2).mono ?_; rintro r w9 ⟨rfl, hb⟩; (have HM9 := Aside0.mk (HM8.out.below hb)); clear hb)
        | (go_at_call 34; refine (config_dead HM7.out.2).mono ?_; rintro r w8 ⟨rfl, hb⟩; (have HM8 := Aside0.mk (HM7.out.below hb)); clear hb)
        | go_in)
      go_roundw
      case rel => exact ⟨k + 1, by push_cast; rfl, by omega, ⟨HM9.out.1⟩⟩
      case measure => simp [intOf]; omega
    · have h2 : k = 2 := by omega
      subst h2
      have HP2 := HP
      clear HP HM0 hlt hk
      go_wp2_with (first | (go_at_call 26; refine (lives_calls _).mono ?_; rintro r w9 ⟨rfl, hb⟩) | fail)
      go_ret
      exact ⟨rfl, HP2.out.bel.trans (below_weaken' hb HP2.out.bel.size)⟩
end Cli

end Go.Proofs.YtepkaaplhcbkbaaGreat.G
