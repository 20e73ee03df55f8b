import Derived.Test.YtmmefnllagbcfaaD4
import Derived.Laws.BytesArg
import Derived.Lib.ConvBytes
import Derived.Deep.Upon
import Derived.Deep.QuietTactic
import Derived.Deep.RegionHeld3
import Derived.Deep.DeepCutAuto
import Derived.Deep.CutBlock
import Derived.Laws.EntriesVeiled
import Derived.StillTailTactics
import Derived.Laws.Tables
import Derived.Laws.CopyOwn
import Derived.Great.Walk
import Derived.Great.BuildSlice
import Derived.Deep.MidRow
import Derived.ArgAppend
import Derived.Maps.AppendAt
import Derived.IntWalk
import Derived.Test.YtmmefnllagbcfaaBlocks
import Derived.Laws.CopyOwn
import Derived.Laws.Tables
import Derived.Outline
namespace Go.Proofs.Ytmmefnllagbcfaa.G
open Go.RowKit Go.Proofs.YtmmefnllagbcfaaW.PrintWords Go.Proofs.YtmmefnllagbcfaaW.PrintLast Go.Proofs.YtmmefnllagbcfaaW.PrintMore
set_option linter.unusedVariables false
set_option linter.unusedSimpArgs false
namespace Dsk
set_option maxRecDepth 100000
theorem num_calls (w : World) (x : Int) : Calls Try.prog 17 #[.int .i64 x] w fun e w' => e = .returned (.int .i64 x) ∧ w' = w := by
  go_enter Try.func17, Try.ntmps17
  go_wp2
  go_ret
  exact ⟨rfl, rfl⟩
/-- A world with the act's block. -/
structure Ac (W w : World) (kd : Int) (nm to_ dt : ByteArray) (sz : Int) (v : Value) : Prop where
  blk : w.heap[W.heap.size]? = some (.cells #[.int .i64 kd, .string nm, .string to_, .string dt, .int .i64 sz] 23 (0, 0))
  dead : Dead w v
  bel : Below W.heap.size W w
theorem Ac.below {W w w' : World} {kd : Int} {nm to_ dt : ByteArray} {sz : Int} {v : Value} (h : Ac W w kd nm to_ dt sz v) (hB : Below w.heap.size w w') : Ac W w' kd nm to_ dt sz v :=
  ⟨blk_below h.blk hB, h.dead.below hB, h.bel.trans (below_weaken' hB h.bel.size)⟩
set_option maxHeartbeats 1600000 in
theorem act_other {W : World} {v : Value} (h : Dead W v) (kd : Int) (nm to_ dt : ByteArray) (sz : Int) (hk : kd = 1 ∨ kd = 3 ∨ kd = 4 ∨ kd = 5 ∨ kd = 6) : Calls Try.prog 11 #[v, .agg #[.int .i64 kd, .string nm, .string to_, .string dt, .int .i64 sz]] W fun r w => r = .returned (.tuple #[.int .i64 2, .bool true]) ∧ Below W.heap.size W w := by
  have hA : Ac W (W.alloc (.cells #[.int .i64 kd, .string nm, .string to_, .string dt, .int .i64 sz] 23)) kd nm to_ dt sz v := ⟨blk_new W _, h.below (below_alloc (Below.refl _ _) _), below_alloc (Below.refl _ _) _⟩
  clear h
  rcases hk with rfl | rfl | rfl | rfl | rfl
  all_goals
    have HA := Aside0.mk hA
    clear hA
    go_enter Try.func11, Try.ntmps11
    go_upto_region 1 with fail
    generalize W.alloc _ = w1 at HA ⊢
    have c0 := blk_cell HA.out.blk 0
    have c1 := blk_cell HA.out.blk 1
    have c2 := blk_cell HA.out.blk 2
    have c4 := blk_cell HA.out.blk 4
    simp only [List.getElem?_toArray, List.getElem?_cons_zero, List.getElem?_cons_succ] at c0 c1 c2 c4
    go_wp2_with (first
      | (go_at_call 39; refine (create_dead HA.out.dead _).mono ?_; rintro r w2 ⟨rfl, hb⟩; (have HA2 := Aside0.mk (HA.out.below hb)); clear hb)
      | (go_at_call 43; refine (cut_dead HA.out.dead _ _).mono ?_; rintro r w2 ⟨rfl, hb⟩; (have HA2 := Aside0.mk (HA.out.below hb)); clear hb)
      | (go_at_call 44; refine (rename_dead HA.out.dead _ _).mono ?_; rintro r w2 ⟨rfl, hb⟩; (have HA2 := Aside0.mk (HA.out.below hb)); clear hb)
      | (go_at_call 45; refine (remove_dead HA.out.dead _).mono ?_; rintro r w2 ⟨rfl, hb⟩; (have HA2 := Aside0.mk (HA.out.below hb)); clear hb)
      | (go_at_call 30; refine (sync_dead HA.out.dead).mono ?_; rintro r w2 ⟨rfl, hw⟩; subst hw; (have HA2 := Aside0.mk HA.out))
      | (go_at_call 17; refine (num_calls _ _).mono ?_; rintro r w3 ⟨rfl, hw⟩; subst hw) | fail)
    go_ret2
    exact ⟨rfl, HA2.out.bel⟩
end Dsk

namespace Dsk
set_option maxRecDepth 100000
/-- A text's bytes, as numbers. -/
def bytesOf (s : ByteArray) : List Int := s.data.toList.map fun b => (b.toNat : Int)
theorem bytesOf_len (s : ByteArray) : (bytesOf s).length = s.size := by
  unfold bytesOf
  rw [List.length_map, Array.length_toList]
  rfl
theorem below_bytes (w : World) (e : TypeId) (s : ByteArray) : Below w.heap.size w (Lib.bytesWorld w e s) := ⟨rfl, rfl, rfl, by rw [Lib.bytesWorld_size]; omega, fun k hk => Lib.bytesWorld_at_old w e s k hk⟩
theorem C_cells {W : World} {g : Nat} {l : List Int} (hl : l.length ≤ 9223372036854775807) (h : ∀ j x, l[j]? = some x → W.cell? ⟨g, j, none⟩ = some (.int .u8 x)) : Kd.C (Kd.int .u8) W (some ⟨g, 0, none⟩) l.length l := by
  refine ⟨rfl, hl, fun _ => ⟨_, rfl, fun j p hj => ⟨[.int .u8 p], rfl, rfl, fun i u hu => ?_⟩⟩⟩
  have hi : i = 0 := by
    rcases i with _ | i
    · rfl
    · simp at hu
  subst hi
  have hu : Value.int .u8 p = u := by simpa using hu
  subst hu
  have : (⟨g, 0, none⟩ : Addr).add (j * (Kd.int .u8).sz + 0) = ⟨g, j, none⟩ := by
    rw [show j * (Kd.int .u8).sz + 0 = j from Nat.mul_one j]
    unfold Addr.add; split <;> simp_all
  rw [this]
  exact h j p hj
theorem C_bytes (w : World) (e : TypeId) (s : ByteArray) (hs : s.size ≤ 9223372036854775807) : Kd.C (Kd.int .u8) (Lib.bytesWorld w e s) (some ⟨w.heap.size, 0, none⟩) (bytesOf s).length (bytesOf s) := by
  refine C_cells (by rw [bytesOf_len]; exact hs) (fun j x hj => ?_)
  have hlt : j < s.size := by rw [← bytesOf_len]; exact (List.getElem?_eq_some_iff.1 hj).1
  rw [Lib.bytesWorld_cell w e s j hlt]
  have hlt2 : j < s.data.toList.length := by rw [Array.length_toList]; exact hlt
  have hx : ((s.data.toList.getD j 0).toNat : Int) = x := by
    unfold bytesOf at hj
    rw [List.getElem?_map, List.getElem?_eq_getElem hlt2] at hj
    rw [List.getD_eq_getElem?_getD, List.getElem?_eq_getElem hlt2]
    exact Option.some.inj hj
  rw [hx]
theorem R_at {w : World} {base g n c : Nat} {ok : Nat → Prop} {xs : List Int} (h : Kd.R (Kd.int .u8) 5 w base ok (.slice (some ⟨g, 0, none⟩) n c) xs) (i : Nat) (hi : i < xs.length) : w.cell? ⟨g, i, none⟩ = some (.int .u8 (xs.getD i 0)) := by
  have ho := Kd.own_of_R h
  have h2 := ho.cells (g := g) rfl i (.int .u8 (xs.getD i 0)) (by simp [encs, List.getD, List.getElem?_eq_getElem hi])
  rw [show (⟨g, 0, none⟩ : Addr).add i = ⟨g, i, none⟩ by unfold Addr.add; split <;> simp_all] at h2
  exact h2
end Dsk

end Go.Proofs.Ytmmefnllagbcfaa.G
