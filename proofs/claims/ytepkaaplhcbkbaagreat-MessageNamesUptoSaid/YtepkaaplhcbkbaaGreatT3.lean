import Derived.Test.YtepkaaplhcbkbaaGreatT2
import Derived.Deep.Upon
import Derived.Deep.QuietTactic
import Derived.BigQuiet
import Derived.Deep.RegionHeld3
import Derived.Deep.DeepCutAuto
import Derived.Deep.CutBlock
import Derived.Laws.EntriesVeiled
import Derived.StillTailTactics
import Derived.Laws.Tables
import Derived.Laws.CopyOwn
import Derived.Test.YtepkaaplhcbkbaaGreatBlocks
import Derived.Laws.CopyOwn
import Derived.Laws.Tables
import Derived.Outline
namespace Go.Proofs.YtepkaaplhcbkbaaGreat.G
open Go.RowKit Go.Proofs.YtepkaaplhcbkbaaGreatW.PrintWords Go.Proofs.YtepkaaplhcbkbaaGreatW.PrintLast Go.Proofs.YtepkaaplhcbkbaaGreatW.PrintMore
set_option linter.unusedVariables false
set_option linter.unusedSimpArgs false
namespace Msg
theorem wpList_load_row_g {P : Program} {ops : Array Oper} {rest : List Oper} {o : Oper} {a : Act} {w : World} {Q : Exit → Act → World → Prop} (hwt : Region.wanted o (yielded ops a.tmps) = true) (ty : TypeId) (x : Operand) (ho : o.op = .load ty x)
    (g : Nat) (hx : a.eval x = .pointer (some ⟨g, 0, none⟩)) (t : TypeId) (cs : Array Value) (fr : Nat × Nat) (d : TypeDesc) (hg : w.heap[g]? = some (.cells cs t fr))
    (hu : P.underlying ty = some d) (hd : (match d with | .struct _ | .array _ _ => true | _ => false) = true) (hi : (P.info? ty).map (·.size) = some cs.size)
    (h : wpList P ops Q rest (a.put o.dst (.agg cs)) w) : wpList P ops Q (o :: rest) a w :=
  wpList_step fun K hK => by
    simp only [hwt, if_true]
    exact wp_load_row ty x ho g hx t cs fr d hg hu hd hi (hK _ _ h)
set_option maxRecDepth 100000 in
theorem also_calls (i0 : FuncId) (c0 : Array Value) (i1 : FuncId) (c1 : Array Value) (i2 : FuncId) (c2 : Array Value) (i3 : FuncId) (c3 : Array Value) (g : FuncId) (W : World) : Calls Tryz.prog 159 #[.agg #[.func (.func i0) #[] c0, .func (.func i1) #[] c1, .func (.func i2) #[] c2, .func (.func i3) #[] c3], .func (.func g) #[] #[]] W fun e w => ∃ p q, e = .returned (.agg #[.func (.func i0) #[] c0, .func (.func i1) #[] c1, .func (.func 263) #[] #[.pointer (some ⟨p, 0, none⟩), .pointer (some ⟨q, 0, none⟩)], .func (.func i3) #[] c3]) ∧ w.heap[p]? = some (.cells #[.func (.func i2) #[] c2] 55 (0, 0)) ∧ w.heap[q]? = some (.cells #[.func (.func g) #[] #[]] 55 (0, 0)) ∧ W.heap.size ≤ p ∧ W.heap.size ≤ q ∧ Below W.heap.size W w := by
  go_enter Tryz.func159, Tryz.ntmps159
  go_wp2
  refine bodyPost_ret (v := .agg #[.func (.func i0) #[] c0, .func (.func i1) #[] c1, .func (.func 263) #[] #[.pointer (some ⟨W.heap.size + 1 + 1 + 1, 0, none⟩), .pointer (some ⟨W.heap.size + 1, 0, none⟩)], .func (.func i3) #[] c3]) (by simp [results, Tryz.results159, go_sem]) rfl ?_
  refine ⟨_, _, rfl, ?_, blk_alloc (blk_alloc (new2 _ _ _) _) _, by omega, by omega, below_alloc (below_alloc (below_alloc (below_alloc (Below.refl _ _) _) _) _) _⟩
  have h := fun (a b c d : Obj) => blk_new (((W.alloc a).alloc b).alloc c) d
  simp only [World.size_alloc] at h
  exact h _ _ _ _
set_option maxRecDepth 100000 in
/-- What 'also' has made of a closure. -/
theorem also1_calls {i2 : FuncId} {c2 : Array Value} {g : FuncId} {W : World} {p q : Nat} {may1 may2 : Mg → Ls → Bool} (hp : W.heap[p]? = some (.cells #[.func (.func i2) #[] c2] 55 (0, 0))) (hq : W.heap[q]? = some (.cells #[.func (.func g) #[] #[]] 55 (0, 0)))
    (e2 : Enters i2) (eg : Enters g) (hm : ∀ W', Below W.heap.size W W' → MayAt i2 c2 W' may1) (hg : ∀ W' m l, Rd W' m l → Calls Tryz.prog g #[.agg m.cells] W' fun e w => e = .returned (.bool (may2 m l)) ∧ Below W'.heap.size W' w) (m : Mg) (l : Ls) (hr : Rd W m l) :
    Calls Tryz.prog 263 #[.agg m.cells, .pointer (some ⟨p, 0, none⟩), .pointer (some ⟨q, 0, none⟩)] W fun e w => e = .returned (.bool (may1 m l && may2 m l)) ∧ Below W.heap.size W w := by
  have hB0 := below_alloc (Below.refl W.heap.size W) (.cells m.cells 49)
  have hpc : (W.alloc (.cells m.cells 49)).cell? ⟨p, 0, none⟩ = some (.func (.func i2) #[] c2) := blk_cell (blk_alloc hp _) 0
  have hf2 : ∀ (args : Array Value) (w : World), Sem.run Tryz.prog (callFunc i2 args) w = .ok (.enter i2 args) w := e2
  have hfg : ∀ (args : Array Value) (w : World), Sem.run Tryz.prog (callFunc g args) w = .ok (.enter g args) w := eg
  have hms : (W.alloc (.cells m.cells 49)).heap[W.heap.size]? = some (.cells m.cells 49 (0, 0)) := blk_new _ _
  have HM := Aside0.mk hms
  have HQ := Aside0.mk (blk_alloc hq (.cells m.cells 49))
  have HB0 := Aside0.mk hB0
  have hss : W.heap.size + 1 = (W.alloc (.cells m.cells 49)).heap.size := (World.size_alloc _ _).symm
  have HS := Aside0.mk hss
  clear hp hq hB0 hms hss
  have HI : Aside0 ((Tryz.prog.info? 49).map (·.size) = some 37) := ⟨by kernel_rfl⟩
  have HU := Aside0.mk Tryz.underlying49
  have HC1 : Aside0 (∀ W', Below W.heap.size W W' → Rd W' m l → Calls Tryz.prog i2 (#[.agg m.cells] ++ c2) W' fun e w => e = .returned (.bool (may1 m l)) ∧ Below W'.heap.size W' w) := ⟨fun W' hB hr' => hm W' hB m l hr'⟩
  have HC2 : Aside0 (∀ W', Rd W' m l → Calls Tryz.prog g #[.agg m.cells] W' fun e w => e = .returned (.bool (may2 m l)) ∧ Below W'.heap.size W' w) := ⟨fun W' hr' => hg W' m l hr'⟩
  clear hm hg
  cases h1 : may1 m l
  · rw [h1] at HC1
    go_enter Tryz.func263, Tryz.ntmps263
    go_wp2_with (first | ((with_reducible refine wpList_load_row rfl 49 (.tmp 3) rfl W.heap.size ?_ 49 m.cells (0, 0) _ HM.out HU.out ?_ ?_ ?_); (· rfl); (· rfl); (· exact HI.out)) | ((with_reducible refine (HC1.out _ ?_ ?_).mono ?_); (· exact HB0.out); (· exact hr.below HB0.out); rintro e w4 ⟨rfl, hb4⟩; (have HM4 := Aside0.mk (blk_below HM.out hb4)); (have HQ4 := Aside0.mk (blk_below HQ.out hb4)); (have HB4 := Aside0.mk (HB0.out.trans (below_weaken' hb4 (by have := HS.out; omega)))); clear hb4 HM HQ HB0; (have HM := HM4); (have HQ := HQ4); (have HB0 := HB4); clear HM4 HQ4 HB4; (have hqc : w4.cell? ⟨q, 0, none⟩ = some (.func (.func g) #[] #[]) := blk_cell HQ.out 0)))
    go_ret
    exact ⟨rfl, HB0.out⟩
  · rw [h1] at HC1
    go_enter Tryz.func263, Tryz.ntmps263
    go_wp2_with (first | ((with_reducible refine wpList_load_row rfl 49 (.tmp 3) rfl W.heap.size ?_ 49 m.cells (0, 0) _ HM.out HU.out ?_ ?_ ?_); (· rfl); (· rfl); (· exact HI.out)) | ((with_reducible refine wpList_load_row_g ?_ 49 (.tmp 3) rfl W.heap.size ?_ 49 m.cells (0, 0) _ HM.out HU.out ?_ ?_ ?_); (· rfl); (· rfl); (· rfl); (· exact HI.out)) | ((with_reducible refine (HC1.out _ ?_ ?_).mono ?_); (· exact HB0.out); (· exact hr.below HB0.out); rintro e w4 ⟨rfl, hb4⟩; (have HM4 := Aside0.mk (blk_below HM.out hb4)); (have HQ4 := Aside0.mk (blk_below HQ.out hb4)); (have HB4 := Aside0.mk (HB0.out.trans (below_weaken' hb4 (by have := HS.out; omega)))); clear hb4 HM HQ HB0; (have HM := HM4); (have HQ := HQ4); (have HB0 := HB4); clear HM4 HQ4 HB4; (have hqc : w4.cell? ⟨q, 0, none⟩ = some (.func (.func g) #[] #[]) := blk_cell HQ.out 0)) | ((with_reducible refine (HC2.out _ ?_).mono ?_); (· exact hr.below HB0.out); rintro e w5 ⟨rfl, hb5⟩; (have HB5 := Aside0.mk (HB0.out.trans (below_weaken' hb5 HB0.out.size))); clear hb5))
    go_ret
    exact ⟨rfl, HB5.out⟩
end Msg

end Go.Proofs.YtepkaaplhcbkbaaGreat.G
