import Derived.Test.YtbfcejbjljalmaaF3
import Derived.Maps.OwnOps
import Derived.WideMake
import Derived.Laws.IdiomRangeMap
import Derived.Maps.AppendAt
import Derived.Deep.RegionLaw
import Derived.ArgAppend
import Derived.Deep.Upon
import Derived.Deep.QuietTactic
import Derived.BigQuiet
import Derived.Deep.RegionHeld3
import Derived.Deep.DeepCutAuto
import Derived.Deep.CutBlock
import Derived.Laws.EntriesVeiled
import Derived.StillTailTactics
import Derived.Laws.Tables
import Derived.Laws.CopyOwn
import Derived.IntWalk
import Derived.Test.YtbfcejbjljalmaaBlocks
import Derived.Laws.CopyOwn
import Derived.Laws.Tables
import Derived.Outline
namespace Go.Proofs.Ytbfcejbjljalmaa.P
open Go.RowKit Go.Proofs.YtbfcejbjljalmaaW.PrintWords Go.Proofs.YtbfcejbjljalmaaW.PrintLast Go.Proofs.YtbfcejbjljalmaaW.PrintMore
set_option linter.unusedVariables false
set_option linter.unusedSimpArgs false
namespace Wl
open Go.Proofs.Ytbfcejbjljalmaa.Blocks Frm
set_option maxRecDepth 100000
/-- What the disk's acts leave alone: all blocks but its own, its map's, and rows of steps. -/
structure Fr (dp mp : Nat) (W w : World) : Prop where
  os : w.os = W.os
  tape : w.tape = W.tape
  output : w.output = W.output
  size : W.heap.size ≤ w.heap.size
  blk : ∀ k, k < W.heap.size → k ≠ dp → k ≠ mp → (∀ cs, W.heap[k]? ≠ some (.cells cs 89 (0, 0))) → w.heap[k]? = W.heap[k]?
theorem Fr.of {dp mp : Nat} {W w : World} (h : Below W.heap.size W w) : Fr dp mp W w := ⟨h.os, h.tape, h.output, h.size, fun k hk _ _ _ => h.block k hk⟩
theorem Fr.trans {dp mp : Nat} {a b c : World} (h : Fr dp mp a b) (g : Fr dp mp b c) : Fr dp mp a c := ⟨g.os.trans h.os, g.tape.trans h.tape, g.output.trans h.output, Nat.le_trans h.size g.size, fun k hk h1 h2 h3 => (g.blk k (Nat.lt_of_lt_of_le hk h.size) h1 h2 (fun cs => (h.blk k hk h1 h2 h3).symm ▸ h3 cs)).trans (h.blk k hk h1 h2 h3)⟩
theorem Fr.at {dp mp k : Nat} {W w : World} {cs : Array Value} {t : TypeId} (h : Fr dp mp W w) (hb : W.heap[k]? = some (.cells cs t (0, 0))) (h1 : k ≠ dp) (h2 : k ≠ mp) (ht : t ≠ 89) : w.heap[k]? = some (.cells cs t (0, 0)) :=
  (h.blk k (blk_lt hb) h1 h2 (fun cs' e => by rw [hb] at e; injection e with e; injection e with _ e; exact ht e)).trans hb
theorem Fr.own {dp mp m base : Nat} {W w : World} {t : TypeId} {u : Value} {z : List Value} (h : Fr dp mp W w) (ho : W.ownsRow base t 1 u m z) (hd : ∀ g, u.ownBlock = some g → g ≠ dp ∧ g ≠ mp) (ht : t ≠ 89) : w.ownsRow base t 1 u m z := by
  refine ⟨ho.1, ?_⟩
  rcases ho.2 with hn | ⟨g, cap, cur, rfl, hb, hc, rest⟩
  · exact .inl hn
  · exact .inr ⟨g, cap, cur, rfl, hb, h.at hc (hd g rfl).1 (hd g rfl).2 ht, rest⟩
theorem Fr.set {dp mp : Nat} {W : World} (i : Nat) (v : Value) : Fr dp mp W (W.setCell ⟨dp, i, none⟩ v) := ⟨rfl, rfl, rfl, by rw [World.size_setCell]; omega, fun k _ h _ _ => Below.heap_setCell W ⟨dp, i, none⟩ v k h⟩
theorem act_calls {W : World} {B dp mp : Nat} {room used acts : Int} {la sv : Value} {ss : List Value} {es : Array MapEntry} {n : Nat} (h : Ds W B dp mp room used acts la sv ss es n) (h0 : 0 ≤ acts) (h1 : acts ≤ 1099511627776) : Calls Try.prog 55 #[.pointer (some ⟨dp, 0, none⟩)] W fun e w' => e = .returned (.int .i64 0) ∧ Ds w' B dp mp room used (acts + 1) la sv ss es n ∧ Below B W w' ∧ Fr dp mp W w' := by
  have hc5 : W.cell? ⟨dp, 5, none⟩ = some (.int .i64 acts) := blk_cell h.dsk 5
  have hf5 : W.frozen? ⟨dp, 5, none⟩ = false := blk_frozen h.dsk 5
  have hw : wrap64 (acts + 1) = acts + 1 := by unfold wrap64; omega
  have hc6 : (W.setCell ⟨dp, 5, none⟩ (.int .i64 (acts + 1))).cell? ⟨dp, 6, none⟩ = some (.int .i64 0) := by
    rw [blk_cell (blk_set h.dsk 5 _)]
    rfl
  have HD := Aside0.mk h
  clear h h0 h1
  go_enter Try.func55, Try.ntmps55
  go_wp2
  go_ret
  have hne : mp ≠ dp := by
    rintro rfl
    have h1 := HD.out.dsk
    rw [HD.out.map] at h1
    cases h1
  refine ⟨rfl, ⟨blk_put HD.out.dsk 5 _ rfl, (Below.heap_setCell W ⟨dp, 5, none⟩ _ mp hne).trans HD.out.map, own_setCell HD.out.stp (p := ⟨dp, 5, none⟩) ?_ _, HD.out.gd, HD.out.gm⟩, (Below.refl _ _).setCell HD.out.gd _, Fr.set 5 _⟩
  intro e
  obtain ⟨c1, k1⟩ := own_typed HD.out.stp dp e.symm
  rw [HD.out.dsk] at k1
  injection k1 with k1
  injection k1 with _ k1
  exact absurd k1 (by decide)
theorem eqslice (w : World) (ad : Addr) (n c : Nat) : (binOp .eql 29 (.slice (some ad) n c) (.slice none 0 0)).run Try.prog w = .ok (.bool false) w := by
  have h1 : ∀ d : Nat, (Op.equalIn (d + 1) 29 (.slice (some ad) n c) (.slice none 0 0)).run Try.prog w = .ok false w := fun d => by
    simp [Op.equalIn, run_underlying Try.underlying29]
  simp only [binOp]
  simp [Op.equal, Op.maxDepth, h1 9999]
theorem clone_calls {W : World} {ad : Addr} {c : Nat} {xs : List Int} (hC : Kd.C (Kd.int .u8) W (some ad) xs.length xs) (hl : xs.length ≤ 1099511627776) : Calls Try.prog 21 #[.slice (some ad) xs.length c] W fun e w => ∃ v, e = .returned v ∧ w.ownsRow W.heap.size 5 1 v xs.length (nums .u8 xs) ∧ (∃ a, v.ownBlock = some a) ∧ Below W.heap.size W w := by
  have hq := eqslice W ad xs.length c
  have HN : Aside0 ((W.alloc (.cells #[] 5)).ownsRow W.heap.size 5 1 (.slice (some ⟨W.heap.size, 0, none⟩) 0 0) ([] : List Int).length (nums .u8 [])) := ⟨⟨by simp [nums], .inr ⟨W.heap.size, 0, #[], rfl, Nat.le_refl _, blk_new W _, Nat.le_refl _, by simp [maxLen], rfl, rfl⟩⟩⟩
  have HC := Aside0.mk (Kd.C_alloc hC (.cells #[] 5))
  have HL := Aside0.mk hl
  clear hC hl
  go_enter Try.func21, Try.ntmps21
  go_wp2_with (first | ((with_reducible refine gate_builtin (b := .append) (xs := #[.tmp 5, .tmp 6]) rfl ?_); at_builtin; refine wp_app (base := W.heap.size) rfl (.tmp 5) (.tmp 6) 29 rfl Try.underlying29 (.slice (some ⟨W.heap.size, 0, none⟩) 0 0) [] xs (some ad) c ?s_ ?x_ HN.out HC.out (by have := HL.out; simp only [List.length_nil]; omega) (by rw [World.size_alloc]; omega) ?_; (case s_ => go_simp); (case x_ => go_simp); intro v1 w1 h1_ h2_ h3_; have h1 := Aside0.mk h1_; have h2 := Aside0.mk h2_; have h3 := Aside0.mk h3_; clear h1_ h2_ h3_) | go_in)
  go_ret
  refine ⟨_, rfl, h1.out, ?_, below_grown ((Below.refl _ _).alloc (Nat.le_refl _) _) h2.out HN.out (by rw [World.size_alloc]; omega)⟩
  rcases h3.out with e | e
  · exact ⟨_, e.trans rfl⟩
  · exact ⟨_, e⟩
/-- Bytes behind a full slice, in new memory. -/
theorem run_fresh {W : World} {A : Option Addr} {xs ys : List Int} (hX : Kd.C (Kd.int .u8) W A xs.length xs) (hA : A = none → xs = []) {A2 : Option Addr} {c2 : Nat} (hY : Kd.C (Kd.int .u8) W A2 ys.length ys) (hy : 0 < ys.length) (t ty : TypeId) (ht : Try.prog.underlying t = some (.slice 5)) (hl : xs.length + ys.length ≤ 1099511627776) :
    ∃ v' w', (Builtin.append_ #[t, t] ty #[.slice A xs.length xs.length, .slice A2 ys.length c2]).run Try.prog W = .ok v' w' ∧ w'.ownsRow W.heap.size 5 1 v' (xs ++ ys).length (nums .u8 (xs ++ ys)) ∧ Below W.heap.size W w' := by
  obtain ⟨i0, hi, hzz⟩ := Option.map_eq_some_iff.1 info_u8
  simp only [Prod.mk.injEq] at hzz
  obtain ⟨hz0, hz1, hz2⟩ := hzz
  cases A with
  | none =>
    obtain rfl := hA rfl
    have hn : W.ownsRow W.heap.size 5 1 (.slice none 0 0) ([] : List Int).length (nums .u8 []) := ⟨by simp [nums], .inl ⟨rfl, rfl⟩⟩
    obtain ⟨v', w', hrun, ho, hg, _⟩ := run_app hn hY (c := c2) t ty ht (by simp only [List.length_nil]; omega) (Nat.le_refl _)
    exact ⟨v', w', hrun, ho, below_grown (Below.refl _ _) hg hn (Nat.le_refl _)⟩
  | some ad =>
    obtain ⟨a2, rfl, hnews⟩ := cells_of_C hY hy
    have holds : ∀ j u, (nums .u8 xs)[j]? = some u → W.cell? (ad.add j) = some u := by
      intro j u hj
      have hx : 0 < xs.length := by
        rcases xs with _ | ⟨x, xs⟩
        · simp [nums] at hj
        · simp
      obtain ⟨a1, e1, h1⟩ := cells_of_C hX hx
      cases e1
      exact h1 j u hj
    obtain ⟨v', w', hrun, ho, hg⟩ := run_append_arg_grows (P := Try.prog) W t ty 5 i0 (.int .u8 0) 1 1 ht hi hz0 hz1 hz2 rfl (by decide) ad xs.length xs.length (nums .u8 xs) (by rw [nums_length, Nat.mul_one]) holds a2 ys.length c2 (nums .u8 ys) (by rw [nums_length, Nat.mul_one]) hnews (by omega) (by simp only [maxLen]; omega) (by omega)
    refine ⟨v', w', hrun, ?_, ⟨hg.os, hg.tape, hg.output, hg.size, fun k hk => hg.block k hk (fun h => by cases h)⟩⟩
    rw [List.length_append, Frm.nums_app]
    exact ho
theorem run_put_one (W : World) (r n : Nat) (v val : Value) (hb : W.heap[r]? = some (.map #[fe v] n)) :
    (Instr.mapUpdate 51 (.map (some r)) (.string ⟨#[97]⟩) val).run Try.prog W = .ok () { W with heap := W.heap.setIfInBounds r (.map #[fe val] n) } := by
  have hc : (Instr.checkKey false 10000 9 (.string ⟨#[97]⟩)).run Try.prog W = .ok () W := MapKept.run_checkKey (k := .string ⟨#[97]⟩) Try.underlying9 (by simp [MapKept.IsKey]) false 9999
  have hf := MapKept.run_findKey (w := W) Try.underlying9 (find_one v)
  have hk : (Instr.keyThatStays (.string ⟨#[97]⟩) (.string ⟨#[97]⟩)).run Try.prog W = .ok (.string ⟨#[97]⟩) W := by kernel_rfl
  unfold fe at hb hf
  simp [Instr.mapUpdate, run_underlying Try.underlying51, MapKept.run_getObj_map hb, hc, hf, hk, MapKept.run_setObj_map _ hb, Result.andThen, fe]
end Wl

end Go.Proofs.Ytbfcejbjljalmaa.P
