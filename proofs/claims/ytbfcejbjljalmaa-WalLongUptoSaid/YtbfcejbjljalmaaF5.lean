import Derived.Test.YtbfcejbjljalmaaF4
import Derived.Maps.OwnOps
import Derived.WideMake
import Derived.Laws.IdiomRangeMap
import Derived.Maps.AppendAt
import Derived.Deep.RegionLaw
import Derived.ArgAppend
import Derived.Deep.Upon
import Derived.Deep.QuietTactic
import Derived.BigQuiet
import Derived.Deep.RegionHeld3
import Derived.Deep.DeepCutAuto
import Derived.Deep.CutBlock
import Derived.Laws.EntriesVeiled
import Derived.StillTailTactics
import Derived.Laws.Tables
import Derived.Laws.CopyOwn
import Derived.IntWalk
import Derived.Test.YtbfcejbjljalmaaBlocks
import Derived.Laws.CopyOwn
import Derived.Laws.Tables
import Derived.Outline
namespace Go.Proofs.Ytbfcejbjljalmaa.P
open Go.RowKit Go.Proofs.YtbfcejbjljalmaaW.PrintWords Go.Proofs.YtbfcejbjljalmaaW.PrintLast Go.Proofs.YtbfcejbjljalmaaW.PrintMore
set_option linter.unusedVariables false
set_option linter.unusedSimpArgs false
namespace Wl
open Go.Proofs.Ytbfcejbjljalmaa.Blocks Frm
set_option maxRecDepth 100000
/-- All blocks but b lie as they lay. -/
structure But (b : Nat) (W w' : World) : Prop where
  os : w'.os = W.os
  tape : w'.tape = W.tape
  output : w'.output = W.output
  size : W.heap.size ≤ w'.heap.size
  block : ∀ k, k < W.heap.size → k ≠ b → w'.heap[k]? = W.heap[k]?
theorem But.below {b B : Nat} {W w' a : World} (h : But b W w') (hb : B ≤ b) (hs : B ≤ W.heap.size) (hB : Below B a W) : Below B a w' :=
  hB.trans ⟨h.os, h.tape, h.output, h.size, fun k hk => h.block k (by omega) (by omega)⟩
theorem But.fr {dp mp : Nat} {W w : World} (h : But mp W w) : Fr dp mp W w := ⟨h.os, h.tape, h.output, h.size, fun k hk _ h2 _ => h.block k hk h2⟩
theorem But.put {mp : Nat} {W W1 : World} {o o1 : Obj} (hB : Below W.heap.size W W1) (hm : W1.heap[mp]? = some o1) : But mp W { W1 with heap := W1.heap.setIfInBounds mp o } ∧ ({ W1 with heap := W1.heap.setIfInBounds mp o } : World).heap[mp]? = some o := by
  have hlt := (Array.getElem?_eq_some_iff.1 hm).1
  refine ⟨⟨hB.os, hB.tape, hB.output, by show W.heap.size ≤ (W1.heap.setIfInBounds mp o).size; rw [Array.size_setIfInBounds]; exact hB.size, fun k hk hne => ?_⟩, Array.getElem?_setIfInBounds_self_of_lt hlt⟩
  show (W1.heap.setIfInBounds mp o)[k]? = _
  rw [Array.getElem?_setIfInBounds_ne (Ne.symm hne)]
  exact hB.block k hk
theorem do_created (W : World) (mp : Nat) (hm : W.heap[mp]? = some (.map #[] 0)) : Calls Try.prog 62 #[.map (some mp), .iface 92 (.agg #[.string ⟨#[97]⟩]), .int .i64 1] W fun e w' => e = .returned (.tuple #[]) ∧ w'.heap[mp]? = some (.map #[fe (.slice none 0 0)] 1) ∧ But mp W w' := by
  have hta : ∀ w, (Instr.typeAssert (.iface 92 (.agg #[.string ⟨#[97]⟩])) 89 92 true).run Try.prog w = .ok (.tuple #[.agg #[.string ⟨#[97]⟩], .bool true]) w := fun _ => by kernel_rfl
  have hlt : mp < W.heap.size := (Array.getElem?_eq_some_iff.1 hm).1
  have hm2 : (W.alloc (Obj.cells #[Value.string { data := #[97] }] 92)).heap[mp]? = some (.map #[] 0) := (heap_alloc_old W _ hlt).trans hm
  have hmu := run_mapUpdate_first (P := Try.prog) (W.alloc (Obj.cells #[Value.string { data := #[97] }] 92)) 51 9 29 mp 0 ⟨#[97]⟩ (.slice none 0 0) Try.underlying51 Try.underlying9 hm2
  have HP := Aside0.mk (But.put (o := .map #[fe (.slice none 0 0)] 1) (below_alloc (Below.refl W.heap.size W) (Obj.cells #[Value.string { data := #[97] }] 92)) hm2)
  go_enter Try.func62, Try.ntmps62
  go_wp2
  go_end0
  exact ⟨rfl, HP.out.2, HP.out.1⟩
theorem clip_calls (W : World) (A : Option Addr) (n c : Nat) (hc : n ≤ c) (hA : A = none → c = 0) : Calls Try.prog 75 #[.slice A n c] W fun e w => e = .returned (.slice A n n) ∧ w = W := by
  have h1 : (n : Int) ≤ (c : Int) := by omega
  cases A with
  | none =>
    obtain rfl := hA rfl
    obtain rfl : n = 0 := by omega
    clear hA hc h1
    go_enter Try.func75, Try.ntmps75
    go_wp2
    go_ret
    exact ⟨rfl, rfl⟩
  | some ad =>
    clear hA
    go_enter Try.func75, Try.ntmps75
    go_wp2
    go_ret
    exact ⟨by simp, rfl⟩
theorem wpo_app {o : Oper} {a : Act} {K : Act → World → Prop} {Q : Exit → Act → World → Prop} {W w1 : World} {x y v1 : Value} (s z : Operand) (t : TypeId) (hop : o.op = .call { callee := .builtin .append, args := #[s, z], argTypes := #[t, t] }) (hs : a.eval s = x) (hz : a.eval z = y) (hrun : (Builtin.append_ #[t, t] o.type #[x, y]).run Try.prog W = .ok v1 w1) (h : K (a.put o.dst v1) w1) : o.wp Try.prog a W K Q := by
  unfold Oper.wp
  simp [execOp, hop, resolve, invoke, builtin, hs, hz, hrun, Result.andThen]
  exact h
theorem do_laid (W : World) (mp : Nat) (A : Option Addr) (c : Nat) (xs ys : List Int) (ad2 : Addr) (c2 : Nat) (hm : W.heap[mp]? = some (.map #[fe (.slice A xs.length c)] 1)) (hX : Kd.C (Kd.int .u8) W A xs.length xs) (hc : xs.length ≤ c) (hA : A = none → c = 0) (hY : Kd.C (Kd.int .u8) W (some ad2) ys.length ys) (hc2 : ys.length ≤ c2) (hy : 0 < ys.length) (hl : xs.length + ys.length ≤ 1099511627776) : Calls Try.prog 62 #[.map (some mp), .iface 94 (.agg #[.string ⟨#[97]⟩, .slice (some ad2) ys.length c2]), .int .i64 ys.length] W fun e w' => e = .returned (.tuple #[]) ∧ ∃ v, w'.heap[mp]? = some (.map #[fe v] 1) ∧ w'.ownsRow W.heap.size 5 1 v (xs ++ ys).length (nums .u8 (xs ++ ys)) ∧ But mp W w' := by
  have hta : ∀ w, (Instr.typeAssert (.iface 94 (.agg #[.string ⟨#[97]⟩, .slice (some ad2) ys.length c2])) 89 92 true).run Try.prog w = .ok (.tuple #[.agg #[.string ⟨#[]⟩], .bool false]) w := fun _ => by kernel_rfl
  have htb : ∀ w, (Instr.typeAssert (.iface 94 (.agg #[.string ⟨#[97]⟩, .slice (some ad2) ys.length c2])) 89 94 true).run Try.prog w = .ok (.tuple #[.agg #[.string ⟨#[97]⟩, .slice (some ad2) ys.length c2], .bool true]) w := fun _ => by kernel_rfl
  have HM := Aside0.mk hm
  have HX := Aside0.mk hX
  have HY := Aside0.mk hY
  clear hm hX hY
  go_enter Try.func62, Try.ntmps62
  go_upto_region 6 with fail
  have HX1 := Aside0.mk (blk_new W (.cells #[.string ⟨#[97]⟩, .slice (some ad2) ys.length c2] 94))
  have HB1 := Aside0.mk (below_alloc (Below.refl W.heap.size W) (.cells #[.string ⟨#[97]⟩, .slice (some ad2) ys.length c2] 94))
  have HM1 := Aside0.mk ((HB1.out.block mp (Array.getElem?_eq_some_iff.1 HM.out).1).trans HM.out)
  have HS1 : Aside0 ((W.alloc (.cells #[.string ⟨#[97]⟩, .slice (some ad2) ys.length c2] 94)).heap.size = W.heap.size + 1) := ⟨World.size_alloc _ _⟩
  generalize W.alloc (.cells #[.string ⟨#[97]⟩, .slice (some ad2) ys.length c2] 94) = w1 at HX1 HB1 HM1 HS1 ⊢
  have x0 : w1.cell? ⟨W.heap.size, 0, none⟩ = some (.string ⟨#[97]⟩) := blk_cell HX1.out 0
  have x1 : w1.cell? ⟨W.heap.size, 1, none⟩ = some (.slice (some ad2) ys.length c2) := blk_cell HX1.out 1
  have hl1 := (lookup_one w1 mp 1 _ HM1.out).2
  have hcc : (ys.length : Int) ≤ (c2 : Int) := by omega
  have hlt1 : mp < w1.heap.size := (Array.getElem?_eq_some_iff.1 HM1.out).1
  have HMD := Aside0.mk (show w1.drew.heap[mp]? = some (.map #[fe (.slice A xs.length c)] 1) from HM1.out)
  have HXD := Aside0.mk (blk_drew HX1.out)
  have HBD : Aside0 (Below W.heap.size W w1.drew) := ⟨HB1.out.trans (below_w (Drawn0.below ⟨1, rfl⟩) HB1.out.size)⟩
  have HSD : Aside0 (w1.drew.heap.size = W.heap.size + 1) := ⟨HS1.out⟩
  refine wp_region_held_drew (S := fun w' => Aside0 (w'.heap[W.heap.size]? = some (.cells #[.string ⟨#[97]⟩, .slice (some ad2) ys.length c2] 94 (0, 0)))) (by kernel_rfl) ⟨HXD.out⟩ (fun hHeld => ?_)
  refine wpAnyH_take (i := 0) (oi := Oper.mk _ _ _ _ _ _) (v := ?v0) rfl (by kernel_rfl) (by kernel_rfl) (by kernel_rfl) (fun _ _ _ h => h) (Or.inl ⟨by rfl, ?hy0⟩) (by assumption) ?r0
  case hy0 => (intro w hSw; clear hSw; go_simp; (try with_reducible rfl))
  try simp only [Act.put, List.setIfInBounds_toArray, List.set_cons_zero, List.set_cons_succ]
  refine wpAnyH_take (i := 1) (oi := Oper.mk _ _ _ _ _ _) (v := ?v1) rfl (by kernel_rfl) (by kernel_rfl) (by kernel_rfl) (fun _ _ _ h => h) (Or.inl ⟨by rfl, ?hy1⟩) (by assumption) ?r1
  case hy1 => (intro w hSw; clear hSw; go_simp; (try with_reducible rfl))
  try simp only [Act.put, List.setIfInBounds_toArray, List.set_cons_zero, List.set_cons_succ]
  refine wpAnyH_take (i := 2) (oi := Oper.mk _ _ _ _ _ _) (v := ?v2) rfl (by kernel_rfl) (by kernel_rfl) (by kernel_rfl) (fun _ _ _ h => h) (Or.inl ⟨by rfl, ?hy2⟩) (by assumption) ?r2
  case hy2 => (intro w hSw; (have g0 : w.cell? ⟨W.heap.size, 0, none⟩ = some (.string ⟨#[97]⟩) := blk_cell hSw.out 0); clear hSw; go_simp; (try with_reducible rfl))
  try simp only [Act.put, List.setIfInBounds_toArray, List.set_cons_zero, List.set_cons_succ]
  refine wpAnyH_take (i := 3) (oi := Oper.mk _ _ _ _ _ _) (v := ?v3) rfl (by kernel_rfl) (by kernel_rfl) (by kernel_rfl) (fun _ _ _ h => h) (Or.inl ⟨by rfl, ?hy3⟩) (by assumption) ?r3
  case hy3 => (intro w hSw; clear hSw; go_simp; (try with_reducible rfl))
  try simp only [Act.put, List.setIfInBounds_toArray, List.set_cons_zero, List.set_cons_succ]
  refine wpAnyH_take (i := 4) (oi := Oper.mk _ _ _ _ _ _) (v := ?v4) rfl (by kernel_rfl) (by kernel_rfl) (by kernel_rfl) (fun _ _ _ h => h) (Or.inl ⟨by rfl, ?hy4⟩) (by assumption) ?r4
  case hy4 => (intro w hSw; clear hSw; go_simp; (try with_reducible rfl))
  try simp only [Act.put, List.setIfInBounds_toArray, List.set_cons_zero, List.set_cons_succ]
  refine wpAnyH_take (i := 5) (oi := Oper.mk _ _ _ _ _ _) (v := ?v5) rfl (by kernel_rfl) (by kernel_rfl) (by kernel_rfl) (fun _ _ _ h => h) (Or.inl ⟨by rfl, ?hy5⟩) (by assumption) ?r5
  case hy5 => (intro w hSw; (have g0 : w.cell? ⟨W.heap.size, 0, none⟩ = some (.string ⟨#[97]⟩) := blk_cell hSw.out 0); clear hSw; go_simp; (try with_reducible rfl))
  try simp only [Act.put, List.setIfInBounds_toArray, List.set_cons_zero, List.set_cons_succ]
  refine wpAnyH_take (i := 8) (oi := Oper.mk _ _ _ _ _ _) (v := ?v8) rfl (by kernel_rfl) (by kernel_rfl) (by kernel_rfl) (fun _ _ _ h => h) (Or.inl ⟨by rfl, ?hy8⟩) (by assumption) ?r8
  case hy8 => (intro w hSw; clear hSw; go_simp; (try with_reducible rfl))
  try simp only [Act.put, List.setIfInBounds_toArray, List.set_cons_zero, List.set_cons_succ]
  refine wpAnyH_take (i := 9) (oi := Oper.mk _ _ _ _ _ _) (v := ?v9) rfl (by kernel_rfl) (by kernel_rfl) (by kernel_rfl) (fun _ _ _ h => h) (Or.inl ⟨by rfl, ?hy9⟩) (by assumption) ?r9
  case hy9 => (intro w hSw; (have g1 : w.cell? ⟨W.heap.size, 1, none⟩ = some (.slice (some ad2) ys.length c2) := blk_cell hSw.out 1); clear hSw; go_simp; (try with_reducible rfl))
  try simp only [Act.put, List.setIfInBounds_toArray, List.set_cons_zero, List.set_cons_succ]
  refine wpAnyH_take (i := 10) (oi := Oper.mk _ _ _ _ _ _) (v := ?v10) rfl (by kernel_rfl) (by kernel_rfl) (by kernel_rfl) (fun _ _ _ h => h) (Or.inl ⟨by rfl, ?hy10⟩) (by assumption) ?r10
  case hy10 => (intro w hSw; clear hSw; go_simp; (try with_reducible rfl))
  try simp only [Act.put, List.setIfInBounds_toArray, List.set_cons_zero, List.set_cons_succ]
  refine wpAnyH_take (i := 11) (oi := Oper.mk _ _ _ _ _ _) (v := ?v11) rfl (by kernel_rfl) (by kernel_rfl) (by kernel_rfl) (fun _ _ _ h => h) (Or.inl ⟨by rfl, ?hy11⟩) (by assumption) ?r11
  case hy11 => (intro w hSw; clear hSw; go_simp; (try with_reducible rfl))
  try simp only [Act.put, List.setIfInBounds_toArray, List.set_cons_zero, List.set_cons_succ]
  clear x0 x1 hl1 HX1 HM1 HB1 HS1 hlt1
  generalize w1.drew = w2 at HMD HXD HBD HSD hHeld ⊢
  have hl1 := (lookup_one w2 mp 1 _ HMD.out).2
  refine wpAnyH_ready (rs := [6]) (by kernel_rfl) (by simp) ?_
  refine AllReadyH.cons (o := Oper.mk _ _ _ _ _ _) rfl (fun K hK => ?_) AllReadyH.nil
  go_simp
  refine hK.out _ _ ⟨HXD.out⟩ (fun hHeld6 => ?_)
  clear hK K
  try simp only [Act.put, List.setIfInBounds_toArray, List.set_cons_zero, List.set_cons_succ]
  refine wpAnyH_ready (rs := [7]) (by kernel_rfl) (by simp) ?_
  refine AllReadyH.cons (o := Oper.mk _ _ _ _ _ _) rfl (fun K hK => ?_) AllReadyH.nil
  go_simp
  refine (clip_calls _ _ _ _ hc hA).mono ?_
  rintro r w3 ⟨rfl, rfl⟩
  refine hK.out _ _ ⟨HXD.out⟩ (fun hHeld7 => ?_)
  clear hK K
  try simp only [Act.put, List.setIfInBounds_toArray, List.set_cons_zero, List.set_cons_succ]
  have HXX := Aside0.mk (Kd.C_below HX.out HBD.out)
  have HYY := Aside0.mk (Kd.C_below HY.out HBD.out)
  obtain ⟨v4, w4, hrun, ho, hb⟩ := run_fresh (c2 := c2) HXX.out (fun h => List.eq_nil_of_length_eq_zero (Nat.le_zero.1 ((hA h) ▸ hc))) HYY.out hy 29 29 Try.underlying29 hl
  have HO4 := Aside0.mk ho
  have HB4 := Aside0.mk hb
  have HX4 := Aside0.mk (blk_below HXD.out hb)
  have HM4 := Aside0.mk ((hb.block mp (Array.getElem?_eq_some_iff.1 HMD.out).1).trans HMD.out)
  clear ho hb
  refine wpAnyH_ready (rs := [12]) (by kernel_rfl) (by simp) ?_
  refine AllReadyH.cons (o := Oper.mk _ _ _ _ _ _) rfl (fun K hK => ?_) AllReadyH.nil
  rw [if_pos (by rfl)]
  refine wpo_app (.tmp 28) (.tmp 32) 29 rfl rfl rfl hrun ?_
  refine hK.out _ _ ⟨HX4.out⟩ (fun hHeld8 => ?_)
  clear hK K hrun
  try simp only [Act.put, List.setIfInBounds_toArray, List.set_cons_zero, List.set_cons_succ]
  have hput := run_put_one w4 mp 1 _ v4 HM4.out
  have HP := Aside0.mk (But.put (o := .map #[fe v4] 1) (HBD.out.trans (below_w HB4.out HBD.out.size)) HM4.out)
  have hne : W.heap.size ≠ mp := by
    intro h
    have h1 := HX4.out
    rw [h, HM4.out] at h1
    cases h1
  have HX5 := Aside0.mk (show ({ w4 with heap := w4.heap.setIfInBounds mp (.map #[fe v4] 1) } : World).heap[W.heap.size]? = some (.cells #[.string ⟨#[97]⟩, .slice (some ad2) ys.length c2] 94 (0, 0)) from (Array.getElem?_setIfInBounds_ne (Ne.symm hne)).trans HX4.out)
  have HO5 := Aside0.mk (show ({ w4 with heap := w4.heap.setIfInBounds mp (.map #[fe v4] 1) } : World).ownsRow W.heap.size 5 1 v4 (xs ++ ys).length (nums .u8 (xs ++ ys)) from own_kept (own_lower HO4.out (by have := HSD.out; omega)) (row := some mp) ⟨rfl, rfl, rfl, by show w4.heap.size ≤ (w4.heap.setIfInBounds mp _).size; rw [Array.size_setIfInBounds]; exact Nat.le_refl _, fun k hk hn => Array.getElem?_setIfInBounds_ne (fun h => hn (by rw [h]))⟩ (fun g hg hh => by
    cases hh
    obtain ⟨c1, k1⟩ := own_typed HO4.out mp hg
    rw [HM4.out] at k1
    cases k1))
  refine wpAnyH_ready (rs := [13]) (by kernel_rfl) (by simp) ?_
  refine AllReadyH.cons (o := Oper.mk _ _ _ _ _ _) rfl (fun K hK => ?_) AllReadyH.nil
  go_simp
  refine hK.out _ _ ⟨HX5.out⟩ (fun hHeld9 => ?_)
  clear hK K hput
  try simp only [Act.put, List.setIfInBounds_toArray, List.set_cons_zero, List.set_cons_succ]
  refine wpAnyH_done (by kernel_rfl) ?_ _
  go_wp2
  go_end0
  exact ⟨rfl, v4, HP.out.2, by have h9 := HO5.out; rw [List.length_append] at h9; exact h9, HP.out.1⟩
end Wl

end Go.Proofs.Ytbfcejbjljalmaa.P
