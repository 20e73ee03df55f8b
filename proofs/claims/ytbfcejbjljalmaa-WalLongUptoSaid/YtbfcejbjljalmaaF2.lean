import Derived.Test.YtbfcejbjljalmaaF1
import Derived.Maps.OwnOps
import Derived.WideMake
import Derived.Laws.IdiomRangeMap
import Derived.Maps.AppendAt
import Derived.Deep.RegionLaw
import Derived.ArgAppend
import Derived.Deep.Upon
import Derived.Deep.QuietTactic
import Derived.BigQuiet
import Derived.Deep.RegionHeld3
import Derived.Deep.DeepCutAuto
import Derived.Deep.CutBlock
import Derived.Laws.EntriesVeiled
import Derived.StillTailTactics
import Derived.Laws.Tables
import Derived.Laws.CopyOwn
import Derived.IntWalk
import Derived.Test.YtbfcejbjljalmaaBlocks
import Derived.Laws.CopyOwn
import Derived.Laws.Tables
import Derived.Outline
namespace Go.Proofs.Ytbfcejbjljalmaa.P
open Go.RowKit Go.Proofs.YtbfcejbjljalmaaW.PrintWords Go.Proofs.YtbfcejbjljalmaaW.PrintLast Go.Proofs.YtbfcejbjljalmaaW.PrintMore
set_option linter.unusedVariables false
set_option linter.unusedSimpArgs false
namespace Wl
open Go.Proofs.Ytbfcejbjljalmaa.Blocks Frm
set_option maxRecDepth 100000
theorem lookup_empty (W : World) (mp n : Nat) (s : ByteArray) (hb : W.heap[mp]? = some (.map #[] n)) : (Instr.lookup 51 (.map (some mp)) (.string s) true).run Try.prog W = .ok (.tuple #[.slice none 0 0, .bool false]) W := by
  have hf : Instr.findNow .string (.string s) ([] : List MapEntry) 0 = some none := rfl
  have hc : (Instr.checkKey true 10000 9 (.string s)).run Try.prog W = .ok () W := MapKept.run_checkKey (k := .string s) Try.underlying9 (by simp [MapKept.IsKey]) true 9999
  have hz : (zeroValue 29).run Try.prog W = .ok (.slice none 0 0) W := by kernel_rfl
  simp [Instr.lookup, run_underlying Try.underlying51, MapKept.run_getObj_map hb, hc, MapKept.run_findKey Try.underlying9 hf, Result.andThen, hz]
theorem next_empty (W : World) (mp n c : Nat) (ty : TypeId) (hb : W.heap[mp]? = some (.map #[] n)) : (Instr.next (.pointer (some ⟨W.heap.size, 0, none⟩)) false ty).run Try.prog (W.alloc (.mapIter (some mp) c #[] c)) = .ok (.tuple #[.bool false]) (W.alloc (.mapIter (some mp) c #[] c)) := by
  rcases run_next_map (P := Try.prog) W ty mp c c #[] #[] n hb (by simp) (Nat.le_refl _) with ⟨_, h⟩ | ⟨e, he, _⟩
  · exact h
  · simp [leftOf] at he
theorem copied0_calls (W : World) (mp n : Nat) (hb : W.heap[mp]? = some (.map #[] n)) : Calls Try.prog 22 #[.map (some mp)] W fun e w' => e = .returned (.map (some W.heap.size)) ∧ w'.heap[W.heap.size]? = some (.map #[] 0) ∧ Below W.heap.size W w' := by
  have hmm := fun t w => run_makeMap (P := Try.prog) t w
  have hlt : mp < W.heap.size := (Array.getElem?_eq_some_iff.1 hb).1
  have hb1 : (W.alloc (.map #[] 0)).heap[mp]? = some (.map #[] n) := (Below.heap_alloc _ _ _ hlt).trans hb
  have hr := run_range_map (P := Try.prog) (W.alloc (.map #[] 0)) 51 9 29 mp #[] n Try.underlying51 hb1
  have hn : ∀ ty, (Instr.next (.pointer (some ⟨W.heap.size + 1, 0, none⟩)) false ty).run Try.prog ((W.alloc (.map #[] 0)).alloc (.mapIter (some mp) n #[] n)) = .ok (.tuple #[.bool false]) ((W.alloc (.map #[] 0)).alloc (.mapIter (some mp) n #[] n)) := fun ty => by
    have := next_empty (W.alloc (.map #[] 0)) mp n n ty hb1
    rwa [World.size_alloc] at this
  go_enter Try.func22, Try.ntmps22
  go_wp2
  refine wp_loop_rounds 1 ?_
  rw [rounds_succ]
  go_wp2
  go_ret
  refine ⟨rfl, ?_, ?_⟩
  · exact (Below.heap_alloc _ _ _ (by rw [World.size_alloc]; omega)).trans (heap_alloc_new _ _)
  · exact ((Below.refl _ _).alloc (Nat.le_refl _) _).alloc (by rw [World.size_alloc]; omega) _
/-- A disk's cells. -/
def dcells (room used acts : Int) (mp : Nat) (la sv : Value) : Array Value := #[.int .i64 room, .map (some mp), la, sv, .int .i64 used, .int .i64 acts, .int .i64 0, .bool false]
/-- A disk whose files are the map's. -/
structure Ds (W : World) (B dp mp : Nat) (room used acts : Int) (la sv : Value) (ss : List Value) (es : Array MapEntry) (n : Nat) : Prop where
  dsk : W.heap[dp]? = some (.cells (dcells room used acts mp la sv) 54 (0, 0))
  map : W.heap[mp]? = some (.map es n)
  stp : W.ownsRow B 89 1 sv ss.length ss
  gd : B ≤ dp
  gm : B ≤ mp
theorem new_calls (W : World) (r : Int) (h0 : 0 ≤ r) (h1 : r ≤ 67108864) : Calls Try.prog 5 #[.int .i64 r, .slice none 0 0] W fun e w' => ∃ dp mp la, e = .returned (.tuple #[.pointer (some ⟨dp, 0, none⟩), .int .i64 0]) ∧ Ds w' W.heap.size dp mp r 0 0 la (.slice none 0 0) [] #[] 0 ∧ Below W.heap.size W w' := by
  have hmm := fun t w => run_makeMap (P := Try.prog) t w
  have b1 : decide (r < 0) = false := decide_eq_false (by omega)
  have b2 : decide (67108864 < r) = false := decide_eq_false (by omega)
  clear h0 h1
  go_enter Try.func5, Try.ntmps5
  go_wp2
  refine wp_loop_rounds 1 ?_
  rw [rounds_succ]
  have hm1 : ((W.alloc (Obj.map #[] 0)).alloc (Obj.cells #[Value.int IntKind.i64 r, Value.map (some W.heap.size), Value.map none, Value.slice none 0 0, Value.int IntKind.i64 0, Value.int IntKind.i64 0, Value.int IntKind.i64 0, Value.bool false] 54)).heap[W.heap.size]? = some (.map #[] 0) := (Below.heap_alloc _ _ _ (by rw [World.size_alloc]; omega)).trans (heap_alloc_new _ _)
  have hd1 : ((W.alloc (Obj.map #[] 0)).alloc (Obj.cells #[Value.int IntKind.i64 r, Value.map (some W.heap.size), Value.map none, Value.slice none 0 0, Value.int IntKind.i64 0, Value.int IntKind.i64 0, Value.int IntKind.i64 0, Value.bool false] 54)).heap[W.heap.size + 1]? = some (.cells #[Value.int IntKind.i64 r, Value.map (some W.heap.size), Value.map none, Value.slice none 0 0, Value.int IntKind.i64 0, Value.int IntKind.i64 0, Value.int IntKind.i64 0, Value.bool false] 54 (0, 0)) := by
    have := heap_alloc_new (W.alloc (Obj.map #[] 0)) (Obj.cells #[Value.int IntKind.i64 r, Value.map (some W.heap.size), Value.map none, Value.slice none 0 0, Value.int IntKind.i64 0, Value.int IntKind.i64 0, Value.int IntKind.i64 0, Value.bool false] 54)
    rwa [World.size_alloc] at this
  have hB1 : Below W.heap.size W ((W.alloc (Obj.map #[] 0)).alloc (Obj.cells #[Value.int IntKind.i64 r, Value.map (some W.heap.size), Value.map none, Value.slice none 0 0, Value.int IntKind.i64 0, Value.int IntKind.i64 0, Value.int IntKind.i64 0, Value.bool false] 54)) := ((Below.refl _ _).alloc (Nat.le_refl _) _).alloc (by rw [World.size_alloc]; omega) _
  generalize (W.alloc (Obj.map #[] 0)).alloc (Obj.cells #[Value.int IntKind.i64 r, Value.map (some W.heap.size), Value.map none, Value.slice none 0 0, Value.int IntKind.i64 0, Value.int IntKind.i64 0, Value.int IntKind.i64 0, Value.bool false] 54) = w1 at hm1 hd1 hB1 ⊢
  have hld : w1.cell? ⟨W.heap.size + 1, 1, none⟩ = some (.map (some W.heap.size)) := blk_cell hd1 1
  have HD := Aside0.mk hd1
  have HM := Aside0.mk hm1
  have HB := Aside0.mk hB1
  clear hd1 hB1
  go_wp2_with (first | (go_at_call 22; refine (copied0_calls _ _ _ hm1).mono ?_; rintro e w2 ⟨rfl, hm2, hB2⟩; (have HD2 := Aside0.mk (blk_below HD.out hB2)); (have HM2 := Aside0.mk ((hB2.block _ (Array.getElem?_eq_some_iff.1 HM.out).1).trans HM.out)); (have HB2 := Aside0.mk (HB.out.trans ⟨hB2.os, hB2.tape, hB2.output, hB2.size, fun k hk => hB2.block k (Nat.lt_of_lt_of_le hk HB.out.size)⟩)); (have k2 : w2.cell? ⟨W.heap.size + 1, 2, none⟩ = some (.map none) := blk_cell HD2.out 2); (have f2 : w2.frozen? ⟨W.heap.size + 1, 2, none⟩ = false := blk_frozen HD2.out 2); clear hB2) | go_in)
  go_ret2
  refine ⟨W.heap.size + 1, W.heap.size, .map (some w1.heap.size), rfl, ⟨blk_set HD2.out 2 _, ?_, ⟨by simp, .inl ⟨rfl, rfl⟩⟩, by omega, Nat.le_refl _⟩, HB2.out.setCell (by show W.heap.size ≤ W.heap.size + 1; omega) _⟩
  exact (Below.heap_setCell w2 ⟨W.heap.size + 1, 2, none⟩ _ _ (by show W.heap.size ≠ W.heap.size + 1; omega)).trans HM2.out
end Wl

end Go.Proofs.Ytbfcejbjljalmaa.P
