import Derived.Test.YtmmefnllagbcfaaD6
import Derived.Maps.OwnOps
import Derived.WideMake
import Derived.Laws.IdiomRangeMap
import Derived.Deep.RegionLaw
import Derived.Deep.Upon
import Derived.Deep.QuietTactic
import Derived.Deep.RegionHeld3
import Derived.Deep.DeepCutAuto
import Derived.Deep.CutBlock
import Derived.Laws.EntriesVeiled
import Derived.StillTailTactics
import Derived.Laws.Tables
import Derived.Laws.CopyOwn
import Derived.Great.Walk
import Derived.Great.BuildSlice
import Derived.Deep.MidRow
import Derived.ArgAppend
import Derived.Maps.AppendAt
import Derived.IntWalk
import Derived.Test.YtmmefnllagbcfaaBlocks
import Derived.Laws.CopyOwn
import Derived.Laws.Tables
import Derived.Outline
namespace Go.Proofs.Ytmmefnllagbcfaa.G
open Go.RowKit Go.Proofs.YtmmefnllagbcfaaW.PrintWords Go.Proofs.YtmmefnllagbcfaaW.PrintLast Go.Proofs.YtmmefnllagbcfaaW.PrintMore
set_option linter.unusedVariables false
set_option linter.unusedSimpArgs false
namespace Dsk
open Go.Proofs.Ytmmefnllagbcfaa.Blocks
theorem next_empty (W : World) (mp n c : Nat) (ty : TypeId) (hb : W.heap[mp]? = some (.map #[] n)) : (Instr.next (.pointer (some ⟨W.heap.size, 0, none⟩)) false ty).run Try.prog (W.alloc (.mapIter (some mp) c #[] c)) = .ok (.tuple #[.bool false]) (W.alloc (.mapIter (some mp) c #[] c)) := by
  rcases run_next_map (P := Try.prog) W ty mp c c #[] #[] n hb (by simp) (Nat.le_refl _) with ⟨_, h⟩ | ⟨e, he, _⟩
  · exact h
  · simp [leftOf] at he
set_option maxRecDepth 100000 in
theorem copied_calls (W : World) (mp n : Nat) (hb : W.heap[mp]? = some (.map #[] n)) : Calls Try.prog 38 #[.map (some mp)] W fun e w' => e = .returned (.map (some W.heap.size)) ∧ w'.heap[W.heap.size]? = some (.map #[] 0) ∧ Below W.heap.size W w' := by
  have hmm := fun t w => run_makeMap (P := Try.prog) t w
  have hlt : mp < W.heap.size := (Array.getElem?_eq_some_iff.1 hb).1
  have hb1 : (W.alloc (.map #[] 0)).heap[mp]? = some (.map #[] n) := (Below.heap_alloc _ _ _ hlt).trans hb
  have hr := run_range_map (P := Try.prog) (W.alloc (.map #[] 0)) 28 9 39 mp #[] n Try.underlying28 hb1
  have hn : ∀ ty, (Instr.next (.pointer (some ⟨W.heap.size + 1, 0, none⟩)) false ty).run Try.prog ((W.alloc (.map #[] 0)).alloc (.mapIter (some mp) n #[] n)) = .ok (.tuple #[.bool false]) ((W.alloc (.map #[] 0)).alloc (.mapIter (some mp) n #[] n)) := fun ty => by
    have := next_empty (W.alloc (.map #[] 0)) mp n n ty hb1
    rwa [World.size_alloc] at this
  go_enter Try.func38, Try.ntmps38
  go_wp2
  refine wp_loop_rounds 1 ?_
  rw [rounds_succ]
  go_wp2
  go_ret
  refine ⟨rfl, ?_, ?_⟩
  · exact (Below.heap_alloc _ _ _ (by rw [World.size_alloc]; omega)).trans (heap_alloc_new _ _)
  · exact ((Below.refl _ _).alloc (Nat.le_refl _) _).alloc (by rw [World.size_alloc]; omega) _
/-- A disk with room for one byte, without a file. -/
def disk0 (mp m2 : Nat) : Array Value := #[.int .i64 1, .map (some mp), .map (some m2), .slice none 0 0, .int .i64 0, .int .i64 0, .int .i64 0, .bool false]
set_option maxRecDepth 100000 in
theorem new_calls (W : World) : Calls Try.prog 10 #[.int .i64 1, .slice none 0 0] W fun e w' => e = .returned (.tuple #[.pointer (some ⟨W.heap.size + 1, 0, none⟩), .int .i64 0]) ∧ w'.heap[W.heap.size]? = some (.map #[] 0) ∧ w'.heap[W.heap.size + 1]? = some (.cells (disk0 W.heap.size (W.heap.size + 2)) 31 (0, 0)) ∧ Below W.heap.size W w' := by
  have hmm := fun t w => run_makeMap (P := Try.prog) t w
  go_enter Try.func10, Try.ntmps10
  go_wp2
  refine wp_loop_rounds 1 ?_
  rw [rounds_succ]
  have hm1 : ((W.alloc (Obj.map #[] 0)).alloc (Obj.cells #[Value.int IntKind.i64 1, Value.map (some W.heap.size), Value.map none, Value.slice none 0 0, Value.int IntKind.i64 0, Value.int IntKind.i64 0, Value.int IntKind.i64 0, Value.bool false] 31)).heap[W.heap.size]? = some (.map #[] 0) := (Below.heap_alloc _ _ _ (by rw [World.size_alloc]; omega)).trans (heap_alloc_new _ _)
  have hd1 : ((W.alloc (Obj.map #[] 0)).alloc (Obj.cells #[Value.int IntKind.i64 1, Value.map (some W.heap.size), Value.map none, Value.slice none 0 0, Value.int IntKind.i64 0, Value.int IntKind.i64 0, Value.int IntKind.i64 0, Value.bool false] 31)).heap[W.heap.size + 1]? = some (.cells #[Value.int IntKind.i64 1, Value.map (some W.heap.size), Value.map none, Value.slice none 0 0, Value.int IntKind.i64 0, Value.int IntKind.i64 0, Value.int IntKind.i64 0, Value.bool false] 31 (0, 0)) := by
    have := heap_alloc_new (W.alloc (Obj.map #[] 0)) (Obj.cells #[Value.int IntKind.i64 1, Value.map (some W.heap.size), Value.map none, Value.slice none 0 0, Value.int IntKind.i64 0, Value.int IntKind.i64 0, Value.int IntKind.i64 0, Value.bool false] 31)
    rwa [World.size_alloc] at this
  have hB1 : Below W.heap.size W ((W.alloc (Obj.map #[] 0)).alloc (Obj.cells #[Value.int IntKind.i64 1, Value.map (some W.heap.size), Value.map none, Value.slice none 0 0, Value.int IntKind.i64 0, Value.int IntKind.i64 0, Value.int IntKind.i64 0, Value.bool false] 31)) := ((Below.refl _ _).alloc (Nat.le_refl _) _).alloc (by rw [World.size_alloc]; omega) _
  have hs1 : ((W.alloc (Obj.map #[] 0)).alloc (Obj.cells #[Value.int IntKind.i64 1, Value.map (some W.heap.size), Value.map none, Value.slice none 0 0, Value.int IntKind.i64 0, Value.int IntKind.i64 0, Value.int IntKind.i64 0, Value.bool false] 31)).heap.size = W.heap.size + 2 := by rw [World.size_alloc, World.size_alloc]
  have hld : ((W.alloc (Obj.map #[] 0)).alloc (Obj.cells #[Value.int IntKind.i64 1, Value.map (some W.heap.size), Value.map none, Value.slice none 0 0, Value.int IntKind.i64 0, Value.int IntKind.i64 0, Value.int IntKind.i64 0, Value.bool false] 31)).cell? ⟨W.heap.size + 1, 1, none⟩ = some (.map (some W.heap.size)) := blk_cell hd1 1
  generalize (W.alloc (Obj.map #[] 0)).alloc (Obj.cells #[Value.int IntKind.i64 1, Value.map (some W.heap.size), Value.map none, Value.slice none 0 0, Value.int IntKind.i64 0, Value.int IntKind.i64 0, Value.int IntKind.i64 0, Value.bool false] 31) = w1 at hm1 hd1 hB1 hs1 hld ⊢
  go_wp2_with (first | (go_at_call 38; refine (copied_calls _ _ _ hm1).mono ?_; rintro e w2 ⟨rfl, hm2, hB2⟩; have hd2 := blk_below hd1 hB2; have hc2 := blk_cell hd2 2; have hf2 := blk_frozen hd2 2) | go_in)
  go_ret2
  rw [hs1] at hB2
  have hbw : ∀ k, k ≤ W.heap.size + 2 → Below k w1 w2 := fun k hk => ⟨hB2.os, hB2.tape, hB2.output, hB2.size, fun q hq => hB2.block q (by omega)⟩
  refine ⟨rfl, ?_, ?_, ?_⟩
  · exact (Below.heap_setCell w2 ⟨W.heap.size + 1, 2, none⟩ _ W.heap.size (by show W.heap.size ≠ W.heap.size + 1; omega)).trans (blk_below hm1 (by rw [hs1]; exact hB2))
  · rw [blk_set hd2]
    rfl
  · exact (hB1.trans (hbw _ (by omega))).setCell (by show W.heap.size ≤ W.heap.size + 1; omega) _
end Dsk

end Go.Proofs.Ytmmefnllagbcfaa.G
