import Derived.Test.YtbfcejbjljalmaaF12
import Derived.Maps.OwnOps
import Derived.WideMake
import Derived.Laws.IdiomRangeMap
import Derived.Maps.AppendAt
import Derived.Deep.RegionLaw
import Derived.ArgAppend
import Derived.RangeFuncNested
import Derived.RangeFuncBound
import Derived.RangeFuncCalls
import Derived.RangeFuncLeaves
import Derived.RangeFuncBox
import Derived.RangeFuncFrom
import Derived.OwnWalkIn
import Derived.TacticsInMore
import Derived.LoopNIn
import Derived.LoopIn
import Derived.Deep.Upon
import Derived.Deep.QuietTactic
import Derived.BigQuiet
import Derived.Deep.RegionHeld3
import Derived.Deep.DeepCutAuto
import Derived.Deep.CutBlock
import Derived.Laws.EntriesVeiled
import Derived.StillTailTactics
import Derived.Laws.Tables
import Derived.Laws.CopyOwn
import Derived.IntWalk
import Derived.Test.YtbfcejbjljalmaaBlocks
import Derived.Laws.CopyOwn
import Derived.Laws.Tables
import Derived.Outline
namespace Go.Proofs.Ytbfcejbjljalmaa.P
open Go.RowKit Go.Proofs.YtbfcejbjljalmaaW.PrintWords Go.Proofs.YtbfcejbjljalmaaW.PrintLast Go.Proofs.YtbfcejbjljalmaaW.PrintMore
set_option linter.unusedVariables false
set_option linter.unusedSimpArgs false
namespace Wl
open Go.Proofs.Ytbfcejbjljalmaa.Blocks Frm
set_option maxRecDepth 100000
theorem wp_make_full {W : World} {ops : Array Oper} {rest : List Oper} {o : Oper} {a : Act} {Q : Exit → Act → World → Prop} (hgd : o.guard = none) (x y : Operand) (hop : o.op = .makeSlice 29 x y) (n : Nat) (hx : a.eval x = .int .i64 (n : Int)) (hy : a.eval y = .int .i64 (n : Int)) (hn : n ≤ 1099511627776)
    (h : ∀ cur : Array Value, cur.size = n → wpList Try.prog ops Q rest (a.put o.dst (.slice (some ⟨W.heap.size, 0, none⟩) n n)) (W.alloc (.cells cur 5))) :
    wpList Try.prog ops Q (o :: rest) a W := by
  obtain ⟨i0, hi, hzz⟩ := Option.map_eq_some_iff.1 info_u8
  simp only [Prod.mk.injEq] at hzz
  obtain ⟨hz0, hz1, hz2⟩ := hzz
  have hrun := run_make (P := Try.prog) W 29 5 i0 (.int .u8 0) Try.underlying29 hi hz0 .i64 .i64 (n : Int) (n : Int) (by omega) (by omega) (by rw [hz2]; omega) (by omega)
  simp only [Int.toNat_natCast] at hrun
  refine wpList_plain hgd fun K hK' => ?_
  unfold Oper.wp
  simp [execOp, hop, hx, hy, hrun, Result.andThen]
  exact hK' _ _ (h _ (by rw [size_madeCells, hz1, Nat.mul_one]))
set_option maxHeartbeats 1000000 in
theorem copied_calls {W : World} {ad : Addr} {c : Nat} {xs : List Int} (hC : Kd.C (Kd.int .u8) W (some ad) xs.length xs) (hl : xs.length ≤ 1099511627776) (hp : 0 < xs.length) : Calls Try.prog 38 #[.slice (some ad) xs.length c] W fun e w => ∃ v, e = .returned v ∧ w.ownsRow W.heap.size 5 1 v xs.length (nums .u8 xs) ∧ Below W.heap.size W w := by
  have HC := Aside0.mk hC
  have HL := Aside0.mk hl
  have HP := Aside0.mk hp
  have hsz1 : Aside0 ((Try.prog.info? 5).map (·.size) = some 1) := ⟨by kernel_rfl⟩
  clear hC hl hp
  go_enter Try.func38, Try.ntmps38
  go_upto_region 2 with ((with_reducible refine wp_make_full rfl (.tmp 5) (.tmp 5) rfl xs.length rfl rfl HL.out ?_); intro cur hcur; (have HCU := Aside0.mk hcur); clear hcur)
  have HX := Aside0.mk (blk_new W (.cells cur 5))
  have HB := Aside0.mk (below_alloc (Below.refl W.heap.size W) (.cells cur 5))
  have HC1 := Aside0.mk (Kd.C_alloc HC.out (.cells cur 5))
  generalize W.alloc (.cells cur 5) = w1 at HX HB HC1 ⊢
  obtain ⟨ad', e1, hcells⟩ := Go.Proofs.Ytbfcejbjljalmaa.Blocks.cells_of_C HC1.out HP.out
  cases e1
  have HCS := Aside0.mk hcells
  clear hcells
  have HFI : Aside0 (0 + (nums .u8 xs).length ≤ cur.size) := ⟨by rw [nums_length, HCU.out]; omega⟩
  have HMI : Aside0 ((nums .u8 xs).length = Nat.min xs.length xs.length) := ⟨by rw [nums_length]; exact (Nat.min_self _).symm⟩
  go_wp2_with ((with_reducible refine wpList_copy_own rfl (.tmp 7) (.tmp 8) 29 29 rfl 5 Try.underlying29 hsz1.out W.heap.size 0 xs.length xs.length ad xs.length c rfl rfl cur 5 HX.out (nums .u8 xs) HMI.out HCS.out HFI.out (nums_one _ _) ?_))
  go_ret
  refine ⟨_, rfl, ⟨by rw [nums_length]; omega, .inr ⟨W.heap.size, xs.length, _, rfl, Nat.le_refl _, setRow_heap w1 _ _ _ 5 (0, 0) HX.out, Nat.le_refl _, by have := HL.out; simp only [maxLen]; omega, ?_, ?_⟩⟩, below_setRow HB.out (Nat.le_refl _) _⟩
  · simp [nums_length, HCU.out]
  · simp [nums_length, HCU.out]
/-- One record's frame. -/
theorem framed1_calls {W : World} (g : Nat) (A : Option Addr) (c : Nat) (xs : List Int) (hg : W.heap[g]? = some (.cells #[.slice A xs.length c] 29 (0, 0))) (hC : Kd.C (Kd.int .u8) W A xs.length xs) (hl : xs.length ≤ 1048576) : Calls Try.prog 32 #[.slice (some ⟨g, 0, none⟩) 1 1] W fun e w => ∃ v, e = .returned (.tuple #[v, .int .i64 0]) ∧ w.ownsRow W.heap.size 5 1 v (fenc 1 xs).length (nums .u8 (fenc 1 xs)) ∧ Below W.heap.size W w := by
  have g0 : W.cell? ⟨g, 0, none⟩ = some (.slice A xs.length c) := blk_cell hg 0
  have b1 : decide (1048576 < (xs.length : Int)) = false := decide_eq_false (by omega)
  have HC := Aside0.mk hC
  have HL := Aside0.mk hl
  have HFL : Aside0 (([] : List Int).length + (fenc 1 xs).length ≤ 140737488355328) := ⟨by rw [fenc_len]; simp only [List.length_nil]; omega⟩
  clear hg hC hl
  go_enter Try.func32, Try.ntmps32
  go_wp2
  refine wp_loop_rounds 2 ?_
  rw [rounds_succ]
  go_wp2_with (first
    | (go_at_call 56; refine (enc_calls _ 1 A c xs HC.out (by decide) (by decide) HL.out).mono ?_; rintro e w1 ⟨v1, rfl, ho, hb⟩; obtain ⟨A1, c1, hv1, _⟩ := Frm.own_slice ho; subst hv1; (have HC1 := Aside0.mk (Frm.C_own ho)); (have HB1 := Aside0.mk hb); (have HN1 : Aside0 (w1.ownsRow W.heap.size 5 1 (.slice none 0 0) ([] : List Int).length (nums .u8 [])) := ⟨⟨by simp [nums], .inl ⟨rfl, rfl⟩⟩⟩); clear ho hb)
    | ((with_reducible refine gate_builtin (b := .append) (xs := #[.tmp 26, .tmp 27]) rfl ?_); at_builtin; refine wp_app (base := W.heap.size) rfl (.tmp 26) (.tmp 27) 29 rfl Try.underlying29 (.slice none 0 0) [] (fenc 1 xs) A1 c1 ?s_ ?x_ HN1.out HC1.out HFL.out HB1.out.size ?_; (case s_ => go_simp); (case x_ => go_simp); intro v2 w2 h1_ h2_ h3_; (have HO2 := Aside0.mk h1_); (have HB2 := Aside0.mk (below_grown HB1.out h2_ HN1.out HB1.out.size)); clear h1_ h2_ h3_)
    | fail)
  rw [rounds_succ]
  go_wp2
  go_ret2
  exact ⟨_, rfl, HO2.out, HB2.out⟩
end Wl

end Go.Proofs.Ytbfcejbjljalmaa.P
