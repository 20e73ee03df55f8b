import Derived.Test.YtepkaaplhcbkbaaGreatT33
import Derived.Deep.Upon
import Derived.Deep.QuietTactic
import Derived.BigQuiet
import Derived.Deep.RegionHeld3
import Derived.Deep.DeepCutAuto
import Derived.Deep.CutBlock
import Derived.Laws.EntriesVeiled
import Derived.StillTailTactics
import Derived.Laws.Tables
import Derived.Laws.CopyOwn
import Derived.Great.Walk
import Derived.Great.BuildSlice
import Derived.IntWalk
import Derived.Test.YtepkaaplhcbkbaaGreatBlocks
import Derived.Laws.CopyOwn
import Derived.Laws.Tables
import Derived.Outline
namespace Go.Proofs.YtepkaaplhcbkbaaGreat.G
open Go.RowKit Go.Proofs.YtepkaaplhcbkbaaGreatW.PrintWords Go.Proofs.YtepkaaplhcbkbaaGreatW.PrintLast Go.Proofs.YtepkaaplhcbkbaaGreatW.PrintMore
set_option linter.unusedVariables false
set_option linter.unusedSimpArgs false
namespace Msg
open Pk Frm Go.Proofs.YtepkaaplhcbkbaaGreat.Blocks
set_option maxRecDepth 100000
theorem look_none {W : World} {b : Nat} {es : Array MapEntry} (he : Ents W b 28 es) (k : Int) (hk28 : ¬ (1 ≤ k ∧ k ≤ 28)) : ∀ w, w.heap[b]? = some (.map es 28) → (Instr.lookup 107 (.map (some b)) (.int .i64 k) true).run Tryz.prog w = .ok (.tuple #[.agg #[.string ⟨#[]⟩, .slice none 0 0, .slice none 0 0], .bool false]) w := by
  have hkeys : ∀ x ∈ es.toList, MapKept.IsKey (.int .i64) x.key := fun x hx => by
    obtain ⟨i, hi, rfl⟩ := List.getElem_of_mem hx
    rw [(he.ent i _ (by rw [Array.getElem?_eq_getElem (by simpa using hi)]; simp)).1]
    rfl
  have hc : ∀ w e, (Instr.checkKey e 10000 25 (.int .i64 k)).run Tryz.prog w = .ok () w := fun w e => MapKept.run_checkKey (k := .int .i64 k) Tryz.underlying25 rfl e 9999
  have hz : ∀ w, (zeroValue 106).run Tryz.prog w = .ok (.agg #[.string ⟨#[]⟩, .slice none 0 0, .slice none 0 0]) w := fun w => by kernel_rfl
  rcases MapKept.findNow_spec (d := .int .i64) (k := .int .i64 k) rfl es.toList 0 hkeys with h | ⟨i, e, hf, hi, hk⟩
  · intro w hb
    simp [Instr.lookup, run_underlying Tryz.underlying107, MapKept.run_getObj_map hb, hc, MapKept.run_findKey Tryz.underlying25 h.1, Result.andThen, hz]
  · rw [Array.getElem?_toList] at hi
    have h2 : i < 28 := by have := (Array.getElem?_eq_some_iff.1 hi).1; rw [he.size] at this; exact this
    rw [(he.ent i e hi).1] at hk
    have hk := (Value.int.inj hk).2
    exact absurd (show 1 ≤ k ∧ k ≤ 28 by omega) hk28
theorem bel_a {W w1 : World} {o o2 : Obj} (hB : Below (W.alloc o).drew.heap.size (W.alloc o).drew w1) : Below W.heap.size W (w1.alloc o2) := by
  have h1 := hB.size
  have h2 : (W.alloc o).drew.heap.size = W.heap.size + 1 := World.size_alloc _ _
  exact ((below_alloc (Below.refl _ _) _).trans (below_weaken' (Drawn0.below ⟨1, rfl⟩) (by rw [World.size_alloc]; omega))).trans ((below_weaken' hB (by omega)).trans (below_weaken' (below_alloc (Below.refl w1.heap.size w1) _) (by omega)))
theorem bel_b {W w1 : World} {o o2 : Obj} {x y z : Value} (hB : Below ((W.alloc o).alloc o2).drew.heap.size ((W.alloc o).alloc o2).drew w1) : Below W.heap.size W (((w1.setCell ⟨W.heap.size + 1, 0, none⟩ x).setCell ⟨W.heap.size + 1, 1, none⟩ y).setCell ⟨W.heap.size + 1, 2, none⟩ z) := by
  have h2 : ((W.alloc o).alloc o2).drew.heap.size = W.heap.size + 1 + 1 := by show ((W.alloc o).alloc o2).heap.size = _; rw [World.size_alloc, World.size_alloc]
  have hb0 : Below W.heap.size W w1 := ((below_alloc (below_alloc (Below.refl W.heap.size W) _) _).trans (below_weaken' (Drawn0.below ⟨1, rfl⟩) (by rw [World.size_alloc, World.size_alloc]; omega))).trans (below_weaken' hB (by omega))
  exact ((hb0.setCell (by show W.heap.size ≤ W.heap.size + 1; omega) _).setCell (by show W.heap.size ≤ W.heap.size + 1; omega) _).setCell (by show W.heap.size ≤ W.heap.size + 1; omega) _
set_option maxHeartbeats 1600000 in
/-- A message of a kind that there is not. -/
theorem check_out (W : World) (m : Mg) (hk : ¬ (1 ≤ m.kd ∧ m.kd ≤ 28)) : Calls Tryz.prog 18 #[.agg m.cells] W fun e w => e = .returned (.int .i64 150) ∧ Below W.heap.size W w := by
  have hk0 : (W.alloc (.cells m.cells 49)).cell? ⟨W.heap.size, 0, none⟩ = some (.int .i64 m.kd) := blk_cell (blk_new _ _) 0
  have e1 := World.new_ne (W.alloc (.cells m.cells 49)) ⟨W.heap.size, 0, none⟩ hk0
  have HK := Aside0.mk hk
  clear hk
  go_enter Tryz.func18, Tryz.ntmps18
  go_upto_region 1 with fail
  go_cut [4] (fun s4 wx => s4 = .bool false ∧ Aside0 (Below W.heap.size W wx))
  case first =>
    go_region_held3 (fun w' => w'.cell? ⟨W.heap.size, 0, none⟩ = some (.int .i64 m.kd)) (go_keep) ((go_at_call 46; refine (lines_calls _).mono ?_; rintro e w1 ⟨b, es, rfl, hE, hB⟩; (have hcx : w1.cell? ⟨W.heap.size, 0, none⟩ = some (.int .i64 m.kd) := (hB.cell (p := ⟨W.heap.size, 0, none⟩) (by simp <;> omega)).trans (by first | assumption | exact hk0)); (have hcy := fun (b : Nat) (o : Nat) h => hB.cell (p := ⟨b, o, none⟩) h); (have hfy := fun (b : Nat) (o : Nat) h => hB.frozen (p := ⟨b, o, none⟩) h); have hL := look_none hE m.kd HK.out; (have hL1 := hL w1 hE.here); (have hL2 := fun o => hL (w1.alloc o) (blk_alloc hE.here o))))
    all_goals (go_wp2_with fail)
    all_goals go_meet
    · exact ⟨rfl, ⟨bel_a hB⟩⟩
    · exact ⟨rfl, ⟨bel_a hB⟩⟩
    · exact ⟨rfl, ⟨bel_b hB⟩⟩
  case rest =>
    obtain ⟨rfl, HL⟩ := hcut
    go_wp2
    go_ret
    exact ⟨rfl, HL.out⟩
/-- The document's one message. -/
def ackM : Mg := ⟨10, 3, 2, 1, 0, 0, 6, 4, ⟨#[]⟩, 0, ⟨#[]⟩, ⟨#[]⟩, 0, 0, 0, 0, 0, ⟨#[]⟩, ⟨#[]⟩, 0, 0, 0, ⟨#[]⟩, ⟨#[]⟩, 0, false, 0, none, 0, 0, 0, none, 0, 0, none, 0, 0, 0, false, none, 0, 0, 0, 0, 0⟩
def noM : Mg := ⟨29, 0, 0, 0, 0, 0, 0, 0, ⟨#[]⟩, 0, ⟨#[]⟩, ⟨#[]⟩, 0, 0, 0, 0, 0, ⟨#[]⟩, ⟨#[]⟩, 0, 0, 0, ⟨#[]⟩, ⟨#[]⟩, 0, false, 0, none, 0, 0, 0, none, 0, 0, none, 0, 0, 0, false, none, 0, 0, 0, 0, 0⟩
def ackL : Ls := ⟨[], []⟩
theorem ack_rd (w : World) : Rd w ackM ackL := ⟨Kd.C_nil _ _, rfl, Nat.le_refl _, Kd.C_nil _ _, rfl, Nat.le_refl _⟩
theorem ack_check (w : World) : Calls Tryz.prog 18 #[.agg ackM.cells] w fun r w' => r = .returned (.int .i64 0) ∧ Below w.heap.size w w' := by
  have hx := check_calls w ackM ackL (ack_rd w) 9 (by decide) rfl
    [⟨87, (fun m _ => decide (1 ≤ m.ep ∧ m.ep ≤ 1099511627776)), (fun m b => { b with ep := m.ep })⟩, ⟨95, (fun m _ => decide (0 ≤ m.sq ∧ m.sq ≤ 1152921504606846976)), (fun m b => { b with sq := m.sq })⟩, ⟨96, (fun m _ => decide (0 ≤ m.nu ∧ m.nu ≤ 1152921504606846976) && upt2 m), (fun m b => { b with nu := m.nu })⟩]
    rfl (by
      intro x hx
      simp only [List.mem_cons, List.not_mem_nil, or_false] at hx
      rcases hx with rfl | rfl | rfl
      · exact fs_epochs
      · exact fs_seqs
      · exact fs_uptos) true
    (fun w' hr => alike_same w' ackM ackL hr (by decide) (by decide) rfl rfl)
  refine hx.mono ?_
  rintro r w' ⟨rfl, hb⟩
  exact ⟨congrArg (fun x => Ending.returned (.int .i64 x)) (by decide +kernel), hb⟩
def ackF : List FL := [⟨87, (fun m _ => decide (1 ≤ m.ep ∧ m.ep ≤ 1099511627776)), (fun m _ => ubs m.ep)⟩, ⟨95, (fun m _ => decide (0 ≤ m.sq ∧ m.sq ≤ 1152921504606846976)), (fun m _ => ubs m.sq)⟩, ⟨96, (fun m _ => decide (0 ≤ m.nu ∧ m.nu ≤ 1152921504606846976) && upt2 m), (fun m _ => ubs m.nu)⟩]
theorem ack_body : bodyOf ackF ackM ackL = [3, 2, 1, 4, 6] := by decide +kernel
def ackB : List Int := fenc 10 [3, 2, 1, 4, 6]
theorem ack_take : (ackB.take 15).drop 10 = [3, 2, 1, 4, 6] := by decide +kernel
theorem ack_len : ackB.length = 19 := rfl
theorem ack_enc (W : World) : Calls Tryz.prog 22 #[.agg ackM.cells] W fun r w => ∃ (g c : Nat), r = .returned (.tuple #[.slice (some ⟨g, 0, none⟩) 19 c, .int .i64 0]) ∧ 19 ≤ c ∧ Kd.C (Kd.int .u8) w (some ⟨g, 0, none⟩) ackB.length ackB ∧ Below W.heap.size W w := by
  have h := encode_calls W ackM ackL (ack_rd W) 9 (by decide) rfl ackF rfl (by
      intro x hx
      simp only [ackF, List.mem_cons, List.not_mem_nil, or_false] at hx
      rcases hx with rfl | rfl | rfl
      · exact ls_epochs
      · exact ls_seqs
      · exact ls_uptos) (by
      intro x hx
      simp only [ackF, List.mem_cons, List.not_mem_nil, or_false] at hx
      rcases hx with rfl | rfl | rfl <;> decide) (fun w _ => ack_check w) (by decide) (by decide) (by decide) (by decide) (by
      intro k
      rcases k with _ | _ | _ | _ | k
      · decide +kernel
      · decide +kernel
      · decide +kernel
      · decide +kernel
      · rw [List.take_of_length_le (by show 3 ≤ _; omega)]; decide +kernel)
  refine h.mono ?_
  rintro r w ⟨v, rfl, ho, hb⟩
  rw [ack_body] at ho
  rcases ho.2 with ⟨_, h0⟩ | ⟨g, c, cur, rfl, _, _, hc, _⟩
  · cases h0
  · exact ⟨g, c, rfl, hc, Frm.C_own ho, hb⟩
set_option maxHeartbeats 4000000 in
/-- The one message is as the document has it. -/
theorem lives_calls (W : World) : Calls Tryz.prog 16 #[] W fun r w => r = .returned (.bool true) ∧ Below W.heap.size W w := by
  have HU := Aside0.mk Tryz.underlying49
  have HI : Aside0 ((Tryz.prog.info? 49).map (·.size) = some 37) := ⟨by kernel_rfl⟩
  have HM := Aside0.mk (setRow_heap (W.alloc (.cells zero37 49)) W.heap.size zero37 ackM.cells 49 (0, 0) (blk_new W _))
  have HB := Aside0.mk (below_setRow (below_alloc (Below.refl W.heap.size W) (.cells zero37 49)) (Nat.le_refl _) ackM.cells)
  go_enter Tryz.func16, Tryz.ntmps16
  go_upto_region 2 with ((with_reducible refine wpList_store_row rfl 49 (.tmp 1) (.tmp 4) rfl W.heap.size ackM.cells ?d1 ?d2 49 zero37 ?c1 ?c2 ?c3 ?c4 ?_); (case d1 => rfl); (case d2 => rfl); (case c1 => exact blk_new W _); (case c2 => exact HI.out); (case c3 => rfl); (case c4 => kernel_rfl))
  unfold zero37 at HM HB
  generalize (W.alloc _).setRow W.heap.size ackM.cells = w1 at HM HB ⊢
  go_upto_region 3 with (first
    | ((with_reducible refine wpList_load_row rfl 49 (.tmp 1) rfl W.heap.size ?_ 49 ackM.cells (0, 0) _ HM.out HU.out ?_ ?_ ?_); (· rfl); (· rfl); (· exact HI.out))
    | (go_at_call 22; refine (ack_enc _).mono ?_; rintro r w2 ⟨g, c, rfl, hc, hC, hb⟩; (have HC := Aside0.mk hC); (have HCC := Aside0.mk hc); (have HB2 := Aside0.mk (HB.out.trans (below_weaken' hb HB.out.size))); clear hC hb hc)
    | fail)
  clear HM HB
  have HS := Aside0.mk (Kd.C_mid (lo := 10) (hi := 15) (c := c) HC.out (by decide) (by decide) HCC.out)
  have hc15 : (15 : Int) ≤ (c : Int) := by have := HCC.out; have : 19 ≤ c := this; omega
  have hc15' : 15 ≤ c := by omega
  have hc10 : ¬ c = 10 := by omega
  have HS5 : Aside0 (Kd.C (Kd.int .u8) w2 (some ⟨g, 10, none⟩) ([3, 2, 1, 4, 6] : List Int).length [3, 2, 1, 4, 6]) := ⟨by
    have h := HS.out
    rw [if_neg hc10] at h
    exact h⟩
  have H5 := Aside0.mk (C_of_blk (k := .u8) (L := [3, 2, 1, 4, 6]) (o := 0) (n := 5) (blk_new w2 (.cells (nums .u8 [3, 2, 1, 4, 6]).toArray 5)) (by exact Nat.le_refl 5) (by exact (by decide : 5 ≤ 9223372036854775807)))
  clear HC HS HCC
  go_wp2_with (first
    | (go_at_call 23; refine (hawserref01_Same.calls (some ⟨g, 10, none⟩) (c - 10) [3, 2, 1, 4, 6] (some ⟨w2.heap.size, 0, none⟩) 5 [3, 2, 1, 4, 6] true _ (Kd.C_alloc HS5.out _) (by show 5 ≤ c - 10; omega) H5.out (Nat.le_refl _) (by decide +kernel)).mono ?_; rintro r w3 ⟨rfl, hd⟩; (have HB3 := Aside0.mk ((HB2.out.alloc HB2.out.size (.cells (nums .u8 [3, 2, 1, 4, 6]).toArray 5)).trans (below_weaken' (Drawn0.below hd) (by have := HB2.out.size; rw [World.size_alloc]; omega)))); clear hd)
    | (go_at_call 18; refine (check_out _ noM (by decide)).mono ?_; rintro r w4 ⟨rfl, hb⟩; (have HB4 := Aside0.mk (HB3.out.trans (below_weaken' hb HB3.out.size))); clear hb)
    | fail)
  go_ret
  exact ⟨rfl, HB4.out⟩
end Msg

end Go.Proofs.YtepkaaplhcbkbaaGreat.G
