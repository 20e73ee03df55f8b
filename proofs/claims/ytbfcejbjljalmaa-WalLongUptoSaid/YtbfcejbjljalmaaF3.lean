import Derived.Test.YtbfcejbjljalmaaF2
import Derived.Maps.OwnOps
import Derived.WideMake
import Derived.Laws.IdiomRangeMap
import Derived.Maps.AppendAt
import Derived.Deep.RegionLaw
import Derived.ArgAppend
import Derived.Deep.Upon
import Derived.Deep.QuietTactic
import Derived.BigQuiet
import Derived.Deep.RegionHeld3
import Derived.Deep.DeepCutAuto
import Derived.Deep.CutBlock
import Derived.Laws.EntriesVeiled
import Derived.StillTailTactics
import Derived.Laws.Tables
import Derived.Laws.CopyOwn
import Derived.IntWalk
import Derived.Test.YtbfcejbjljalmaaBlocks
import Derived.Laws.CopyOwn
import Derived.Laws.Tables
import Derived.Outline
namespace Go.Proofs.Ytbfcejbjljalmaa.P
open Go.RowKit Go.Proofs.YtbfcejbjljalmaaW.PrintWords Go.Proofs.YtbfcejbjljalmaaW.PrintLast Go.Proofs.YtbfcejbjljalmaaW.PrintMore
set_option linter.unusedVariables false
set_option linter.unusedSimpArgs false
namespace Wl
open Go.Proofs.Ytbfcejbjljalmaa.Blocks Frm
set_option maxRecDepth 100000
/-- The name 'a', and the map's entry of it. -/
def an : ByteArray := ⟨#[97]⟩
def fe (v : Value) : MapEntry := { key := .string ⟨#[97]⟩, val := v, born := 0 }
theorem below_w {B B' : Nat} {a b : World} (h : Below B' a b) (hb : B ≤ B') : Below B a b := ⟨h.os, h.tape, h.output, h.size, fun k hk => h.block k (by omega)⟩
theorem find_one (v : Value) : Instr.findNow .string (.string ⟨#[97]⟩) [fe v] 0 = some (some (0, v)) := rfl
theorem lookup_one (W : World) (mp n : Nat) (v : Value) (hb : W.heap[mp]? = some (.map #[fe v] n)) : (Instr.lookup 51 (.map (some mp)) (.string ⟨#[97]⟩) true).run Try.prog W = .ok (.tuple #[v, .bool true]) W ∧ (Instr.lookup 51 (.map (some mp)) (.string ⟨#[97]⟩) false).run Try.prog W = .ok v W := by
  have hc : ∀ e, (Instr.checkKey e 10000 9 (.string ⟨#[97]⟩)).run Try.prog W = .ok () W := fun e => MapKept.run_checkKey (k := .string ⟨#[97]⟩) Try.underlying9 (by simp [MapKept.IsKey]) e 9999
  have hf := MapKept.run_findKey (w := W) Try.underlying9 (find_one v)
  unfold fe at hb hf
  constructor <;> simp [Instr.lookup, run_underlying Try.underlying51, MapKept.run_getObj_map hb, hc, hf, Result.andThen]
theorem isName_calls (W : World) : Calls Try.prog 20 #[.string ⟨#[97]⟩] W fun e w' => e = .returned (.bool true) ∧ w' = W := by
  go_enter Try.func20, Try.ntmps20
  go_wp2
  refine wp_loop_rounds 2 ?_
  rw [rounds_succ]
  go_wp2
  rw [rounds_succ]
  go_wp2
  go_ret
  exact ⟨rfl, rfl⟩
theorem neqmap (w : World) (a : Nat) : (binOp .neq 51 (.map (some a)) (.map none)).run Try.prog w = .ok (.bool true) w := by
  have h1 : ∀ d : Nat, (Op.equalIn (d + 1) 51 (.map (some a)) (.map none)).run Try.prog w = .ok false w := fun d => by
    simp [Op.equalIn, run_underlying Try.underlying51]
  simp only [binOp]
  simp [Op.equal, Op.maxDepth, h1 9999]
theorem Ds.below {W W' : World} {B dp mp : Nat} {room used acts : Int} {la sv : Value} {ss : List Value} {es : Array MapEntry} {n : Nat} (h : Ds W B dp mp room used acts la sv ss es n) (hB : Below W.heap.size W W') : Ds W' B dp mp room used acts la sv ss es n :=
  ⟨blk_below h.dsk hB, (hB.block _ (Array.getElem?_eq_some_iff.1 h.map).1).trans h.map, own_below h.stp hB, h.gd, h.gm⟩
theorem made_calls {W : World} {B dp mp : Nat} {room used acts : Int} {la sv : Value} {ss : List Value} {es : Array MapEntry} {n : Nat} (h : Ds W B dp mp room used acts la sv ss es n) : Calls Try.prog 43 #[.pointer (some ⟨dp, 0, none⟩)] W fun e w' => e = .returned (.bool true) ∧ w' = W := by
  have hc1 : W.cell? ⟨dp, 1, none⟩ = some (.map (some mp)) := blk_cell h.dsk 1
  have hne := neqmap W mp
  clear h
  go_enter Try.func43, Try.ntmps43
  go_wp2
  go_ret
  exact ⟨rfl, rfl⟩
theorem ready0_calls {W : World} {B dp mp : Nat} {room used acts : Int} {la sv : Value} {ss : List Value} {es : Array MapEntry} {n : Nat} (h : Ds W B dp mp room used acts la sv ss es n) : Calls Try.prog 54 #[.pointer (some ⟨dp, 0, none⟩), .slice none 0 0] W fun e w' => e = .returned (.int .i64 0) ∧ w' = W := by
  have hc7 : W.cell? ⟨dp, 7, none⟩ = some (.bool false) := blk_cell h.dsk 7
  have HD := Aside0.mk h
  clear h
  go_enter Try.func54, Try.ntmps54
  go_wp2_with (first | (go_at_call 43; refine (made_calls HD.out).mono ?_; rintro e w2 ⟨rfl, rfl⟩) | go_in)
  refine wp_loop_rounds 1 ?_
  rw [rounds_succ]
  go_wp2
  go_ret
  exact ⟨rfl, rfl⟩
theorem ready_calls {W : World} {B dp mp : Nat} {room used acts : Int} {la sv : Value} {ss : List Value} {es : Array MapEntry} {n : Nat} (h : Ds W B dp mp room used acts la sv ss es n) (g : Nat) (hs : W.cell? ⟨g, 0, none⟩ = some (.string ⟨#[97]⟩)) : Calls Try.prog 54 #[.pointer (some ⟨dp, 0, none⟩), .slice (some ⟨g, 0, none⟩) 1 1] W fun e w' => e = .returned (.int .i64 0) ∧ w' = W := by
  have hc7 : W.cell? ⟨dp, 7, none⟩ = some (.bool false) := blk_cell h.dsk 7
  have HD := Aside0.mk h
  clear h
  go_enter Try.func54, Try.ntmps54
  go_wp2_with (first | (go_at_call 43; refine (made_calls HD.out).mono ?_; rintro e w2 ⟨rfl, rfl⟩) | go_in)
  refine wp_loop_rounds 2 ?_
  rw [rounds_succ]
  go_wp2_with (first | (go_at_call 20; refine (isName_calls _).mono ?_; rintro e w2 ⟨rfl, rfl⟩) | go_in)
  rw [rounds_succ]
  go_wp2
  go_ret
  exact ⟨rfl, rfl⟩
theorem has0_calls {W : World} {B dp mp : Nat} {room used acts : Int} {la sv : Value} {ss : List Value} {n : Nat} (h : Ds W B dp mp room used acts la sv ss #[] n) : Calls Try.prog 57 #[.pointer (some ⟨dp, 0, none⟩), .string ⟨#[97]⟩] W fun e w' => e = .returned (.bool false) ∧ w' = W := by
  have hc1 : W.cell? ⟨dp, 1, none⟩ = some (.map (some mp)) := blk_cell h.dsk 1
  have hl := lookup_empty W mp n ⟨#[97]⟩ h.map
  clear h
  go_enter Try.func57, Try.ntmps57
  go_wp2
  go_ret
  exact ⟨rfl, rfl⟩
theorem has1_calls {W : World} {B dp mp : Nat} {room used acts : Int} {la sv v : Value} {ss : List Value} {n : Nat} (h : Ds W B dp mp room used acts la sv ss #[fe v] n) : Calls Try.prog 57 #[.pointer (some ⟨dp, 0, none⟩), .string ⟨#[97]⟩] W fun e w' => e = .returned (.bool true) ∧ w' = W := by
  have hc1 : W.cell? ⟨dp, 1, none⟩ = some (.map (some mp)) := blk_cell h.dsk 1
  have hl := (lookup_one W mp n v h.map).1
  clear h
  go_enter Try.func57, Try.ntmps57
  go_wp2
  go_ret
  exact ⟨rfl, rfl⟩
theorem there0_calls {W : World} {B dp mp : Nat} {room used acts : Int} {la sv : Value} {ss : List Value} {n : Nat} (h : Ds W B dp mp room used acts la sv ss #[] n) : Calls Try.prog 46 #[.pointer (some ⟨dp, 0, none⟩), .string ⟨#[97]⟩, .slice none 0 0] W fun e w' => e = .returned (.int .i64 121) ∧ Below W.heap.size W w' := by
  have HD := Aside0.mk (h.below (below_alloc (Below.refl _ _) (.cells #[.string ⟨#[97]⟩] 9)))
  have HS := Aside0.mk (blk_cell (blk_new W (.cells #[.string ⟨#[97]⟩] 9)) 0)
  clear h
  go_enter Try.func46, Try.ntmps46
  go_wp2_with (first | (go_at_call 54; refine (ready_calls HD.out _ HS.out).mono ?_; rintro r w1 ⟨rfl, hw⟩; subst hw) | (go_at_call 57; refine (has0_calls HD.out).mono ?_; rintro r w1 ⟨rfl, hw⟩; subst hw) | fail)
  go_ret
  exact ⟨rfl, below_alloc (Below.refl _ _) _⟩
theorem there1_calls {W : World} {B dp mp : Nat} {room used acts : Int} {la sv v : Value} {ss : List Value} {n : Nat} (h : Ds W B dp mp room used acts la sv ss #[fe v] n) : Calls Try.prog 46 #[.pointer (some ⟨dp, 0, none⟩), .string ⟨#[97]⟩, .slice none 0 0] W fun e w' => e = .returned (.int .i64 0) ∧ Below W.heap.size W w' := by
  have HD := Aside0.mk (h.below (below_alloc (Below.refl _ _) (.cells #[.string ⟨#[97]⟩] 9)))
  have HS := Aside0.mk (blk_cell (blk_new W (.cells #[.string ⟨#[97]⟩] 9)) 0)
  clear h
  go_enter Try.func46, Try.ntmps46
  go_wp2_with (first | (go_at_call 54; refine (ready_calls HD.out _ HS.out).mono ?_; rintro r w1 ⟨rfl, hw⟩; subst hw) | (go_at_call 57; refine (has1_calls HD.out).mono ?_; rintro r w1 ⟨rfl, hw⟩; subst hw) | fail)
  go_ret
  exact ⟨rfl, below_alloc (Below.refl _ _) _⟩
theorem size0_calls {W : World} {B dp mp : Nat} {room used acts : Int} {la sv : Value} {ss : List Value} {n : Nat} (h : Ds W B dp mp room used acts la sv ss #[] n) : Calls Try.prog 23 #[.pointer (some ⟨dp, 0, none⟩), .string ⟨#[97]⟩] W fun e w' => e = .returned (.tuple #[.int .i64 0, .int .i64 121]) ∧ Below W.heap.size W w' := by
  have HD := Aside0.mk h
  clear h
  go_enter Try.func23, Try.ntmps23
  go_wp2_with (first | (go_at_call 46; refine (there0_calls HD.out).mono ?_; rintro r w1 ⟨rfl, hb⟩) | fail)
  go_ret2
  exact ⟨rfl, hb⟩
theorem size1_calls {W : World} {B dp mp : Nat} {room used acts : Int} {la sv : Value} {A : Option Addr} {l c : Nat} {ss : List Value} {n : Nat} (h : Ds W B dp mp room used acts la sv ss #[fe (.slice A l c)] n) : Calls Try.prog 23 #[.pointer (some ⟨dp, 0, none⟩), .string ⟨#[97]⟩] W fun e w' => e = .returned (.tuple #[.int .i64 l, .int .i64 0]) ∧ Below W.heap.size W w' := by
  have HD := Aside0.mk h
  clear h
  go_enter Try.func23, Try.ntmps23
  go_wp2_with (first | (go_at_call 46; refine (there1_calls HD.out).mono ?_; rintro r w1 ⟨rfl, hb⟩; (have HD1 := Aside0.mk (HD.out.below hb)); (have hc1 : w1.cell? ⟨dp, 1, none⟩ = some (.map (some mp)) := blk_cell HD1.out.dsk 1); (have hl := (lookup_one w1 mp n _ HD1.out.map).2)) | fail)
  go_ret2
  exact ⟨rfl, hb⟩
theorem acts_calls {W : World} {B dp mp : Nat} {room used acts : Int} {la sv : Value} {ss : List Value} {es : Array MapEntry} {n : Nat} (h : Ds W B dp mp room used acts la sv ss es n) : Calls Try.prog 44 #[.pointer (some ⟨dp, 0, none⟩)] W fun e w' => e = .returned (.int .i64 acts) ∧ w' = W := by
  have hc5 : W.cell? ⟨dp, 5, none⟩ = some (.int .i64 acts) := blk_cell h.dsk 5
  have HD := Aside0.mk h
  clear h
  go_enter Try.func44, Try.ntmps44
  go_wp2_with (first | (go_at_call 43; refine (made_calls HD.out).mono ?_; rintro e w2 ⟨rfl, rfl⟩) | go_in)
  go_ret
  exact ⟨rfl, rfl⟩
theorem pending0_calls {W : World} {B dp mp : Nat} {room used acts : Int} {la : Value} {es : Array MapEntry} {n : Nat} (h : Ds W B dp mp room used acts la (.slice none 0 0) [] es n) : Calls Try.prog 29 #[.pointer (some ⟨dp, 0, none⟩)] W fun e w' => e = .returned (.int .i64 0) ∧ w' = W := by
  have hc3 : W.cell? ⟨dp, 3, none⟩ = some (.slice none 0 0) := blk_cell h.dsk 3
  have HD := Aside0.mk h
  clear h
  go_enter Try.func29, Try.ntmps29
  go_wp2_with (first | (go_at_call 43; refine (made_calls HD.out).mono ?_; rintro e w2 ⟨rfl, rfl⟩) | go_in)
  refine wp_loop_rounds 1 ?_
  rw [rounds_succ]
  go_wp2
  go_ret
  exact ⟨rfl, rfl⟩
end Wl

end Go.Proofs.Ytbfcejbjljalmaa.P
