import Derived.Test.YtepkaaplhcbkbaaGreatT3
import Derived.Deep.Upon
import Derived.Deep.QuietTactic
import Derived.BigQuiet
import Derived.Deep.RegionHeld3
import Derived.Deep.DeepCutAuto
import Derived.Deep.CutBlock
import Derived.Laws.EntriesVeiled
import Derived.StillTailTactics
import Derived.Laws.Tables
import Derived.Laws.CopyOwn
import Derived.Test.YtepkaaplhcbkbaaGreatBlocks
import Derived.Laws.CopyOwn
import Derived.Laws.Tables
import Derived.Outline
namespace Go.Proofs.YtepkaaplhcbkbaaGreat.G
open Go.RowKit Go.Proofs.YtepkaaplhcbkbaaGreatW.PrintWords Go.Proofs.YtepkaaplhcbkbaaGreatW.PrintLast Go.Proofs.YtepkaaplhcbkbaaGreatW.PrintMore
set_option linter.unusedVariables false
set_option linter.unusedSimpArgs false
namespace Msg
def cli2 (m : Mg) : Bool := (plc m.fr != 3 || m.fr == wrap64 (100 + m.cl)) && (plc m.tt != 3 || m.tt == wrap64 (100 + m.cl))
def upt2 (m : Mg) : Bool := decide (m.nu ≥ m.sq)
def joi2 (m : Mg) : Bool := m.nu != m.tt
def att2 (m : Mg) : Bool := m.att == 0 || plc m.fr != 3
set_option maxRecDepth 100000 in
theorem cli2_calls (W : World) (m : Mg) : Calls Tryz.prog 160 #[.agg m.cells] W fun e w => e = .returned (.bool (cli2 m)) ∧ Below W.heap.size W w := by
  have HB := Aside0.mk (below_alloc (Below.refl W.heap.size W) (.cells m.cells 49))
  have hc1 : (W.alloc (.cells m.cells 49)).cell? ⟨W.heap.size, 1, none⟩ = some (.int .i64 m.fr) := blk_cell (blk_new _ _) 1
  have hc2 : (W.alloc (.cells m.cells 49)).cell? ⟨W.heap.size, 2, none⟩ = some (.int .i64 m.tt) := blk_cell (blk_new _ _) 2
  have hc5 : (W.alloc (.cells m.cells 49)).cell? ⟨W.heap.size, 5, none⟩ = some (.int .i64 m.cl) := blk_cell (blk_new _ _) 5
  go_enter Tryz.func160, Tryz.ntmps160
  go_wp2_with (first | (go_at_call 107; refine (placeOf_calls _ _).mono ?_; rintro e w1 ⟨rfl, rfl⟩) | go_in)
  all_goals (go_ret; exact ⟨by simp_all [cli2], HB.out⟩)
set_option maxRecDepth 100000 in
theorem upt2_calls (W : World) (m : Mg) : Calls Tryz.prog 206 #[.agg m.cells] W fun e w => e = .returned (.bool (upt2 m)) ∧ Below W.heap.size W w := by
  have HB := Aside0.mk (below_alloc (Below.refl W.heap.size W) (.cells m.cells 49))
  have hc6 : (W.alloc (.cells m.cells 49)).cell? ⟨W.heap.size, 6, none⟩ = some (.int .i64 m.nu) := blk_cell (blk_new _ _) 6
  have hc7 : (W.alloc (.cells m.cells 49)).cell? ⟨W.heap.size, 7, none⟩ = some (.int .i64 m.sq) := blk_cell (blk_new _ _) 7
  go_enter Tryz.func206, Tryz.ntmps206
  go_wp2_with (first | go_in)
  all_goals (go_ret; exact ⟨by simp_all [upt2], HB.out⟩)
set_option maxRecDepth 100000 in
theorem joi2_calls (W : World) (m : Mg) : Calls Tryz.prog 228 #[.agg m.cells] W fun e w => e = .returned (.bool (joi2 m)) ∧ Below W.heap.size W w := by
  have HB := Aside0.mk (below_alloc (Below.refl W.heap.size W) (.cells m.cells 49))
  have hc6 : (W.alloc (.cells m.cells 49)).cell? ⟨W.heap.size, 6, none⟩ = some (.int .i64 m.nu) := blk_cell (blk_new _ _) 6
  have hc2 : (W.alloc (.cells m.cells 49)).cell? ⟨W.heap.size, 2, none⟩ = some (.int .i64 m.tt) := blk_cell (blk_new _ _) 2
  go_enter Tryz.func228, Tryz.ntmps228
  go_wp2_with (first | go_in)
  all_goals (go_ret; exact ⟨by simp_all [joi2], HB.out⟩)
set_option maxRecDepth 100000 in
theorem att2_calls (W : World) (m : Mg) : Calls Tryz.prog 198 #[.agg m.cells] W fun e w => e = .returned (.bool (att2 m)) ∧ Below W.heap.size W w := by
  have HB := Aside0.mk (below_alloc (Below.refl W.heap.size W) (.cells m.cells 49))
  have hc4 : (W.alloc (.cells m.cells 49)).cell? ⟨W.heap.size, 4, none⟩ = some (.int .i64 m.att) := blk_cell (blk_new _ _) 4
  have hc1 : (W.alloc (.cells m.cells 49)).cell? ⟨W.heap.size, 1, none⟩ = some (.int .i64 m.fr) := blk_cell (blk_new _ _) 1
  go_enter Tryz.func198, Tryz.ntmps198
  go_wp2_with (first | (go_at_call 107; refine (placeOf_calls _ _).mono ?_; rintro e w1 ⟨rfl, rfl⟩) | go_in)
  all_goals (go_ret; exact ⟨by simp_all [att2], HB.out⟩)
set_option maxRecDepth 100000 in
theorem fs_clients : FieldSem 84 (fun m _ => decide (1 ≤ m.cl ∧ m.cl ≤ 16) && cli2 m) (fun m b => { b with cl := m.cl }) := by
  refine ⟨fun args w => by kernel_rfl, fun W => ?_⟩
  have hu := Tryz.underlying116
  go_enter Tryz.func84, Tryz.ntmps84
  go_wp2_with (first | (go_at_call 157; refine (whole_calls _ _ _ _).mono ?_; rintro e w1 ⟨a, b, c, rfl, hw, ha, hb, hc, hB⟩; (have hx := Aside0.mk ((hB.block (W.heap.size + 1) (by simp)).trans (new2 W _ _))); (have hw_ := Aside0.mk hw); clear hw; (have hn_ := Aside0.mk (And.intro ha (And.intro hb hc))); clear ha hb hc; (have hB_ := Aside0.mk hB); clear hB; simp only [WholeV]) | (go_at_call 159; refine (also_calls _ _ _ _ _ _ _ _ _ _).mono ?_; rintro e w2 ⟨p, q, rfl, hp, hq, hpn, hqn, hB2⟩; (have hx2 := Aside0.mk (blk_below hx.out hB2)); (have hw2 := Aside0.mk (show WholeB w2 _ _ _ a b c from ⟨blk_below hw_.out.a hB2, blk_below hw_.out.b hB2, blk_below hw_.out.c hB2⟩)); (have hpq := Aside0.mk (And.intro hp hq)); (have hn2 := Aside0.mk (And.intro hpn hqn)); (have hB2_ := Aside0.mk hB2); clear hB2 hp hq hpn hqn) | ((with_reducible refine wpList_store_row rfl 116 (.tmp 2) (.tmp 4) rfl (W.heap.size + 1) #[.func (.func 259) #[] #[.pointer (some ⟨c, 0, none⟩), .pointer (some ⟨b, 0, none⟩)], .func (.func 260) #[] #[.pointer (some ⟨b, 0, none⟩), .pointer (some ⟨c, 0, none⟩)], .func (.func 263) #[] #[.pointer (some ⟨p, 0, none⟩), .pointer (some ⟨q, 0, none⟩)], .func (.func 262) #[] #[.pointer (some ⟨c, 0, none⟩)]] ?d1 ?d2 116 #[.nilFunc, .nilFunc, .nilFunc, .nilFunc] ?c1 ?c2 ?c3 ?c4 ?_); (case d1 => rfl); (case d2 => rfl); (case c1 => exact hx2.out); (case c2 => exact info_field); (case c3 => rfl); (case c4 => kernel_rfl)) | go_in)
  refine bodyPost_ret (results_cell1 (P := Tryz.prog) rfl _ _ (W.heap.size + 1) 116 #[.func (.func 259) #[] #[.pointer (some ⟨c, 0, none⟩), .pointer (some ⟨b, 0, none⟩)], .func (.func 260) #[] #[.pointer (some ⟨b, 0, none⟩), .pointer (some ⟨c, 0, none⟩)], .func (.func 263) #[] #[.pointer (some ⟨p, 0, none⟩), .pointer (some ⟨q, 0, none⟩)], .func (.func 262) #[] #[.pointer (some ⟨c, 0, none⟩)]] (0, 0) _ rfl (setRow_heap w2 _ _ _ 116 (0, 0) hx2.out) hu rfl (by exact info_field)) rfl ?_
  have hsz : W.heap.size + 1 < ((W.alloc (Obj.cells #[] 118)).alloc (Obj.cells #[Value.nilFunc, Value.nilFunc, Value.nilFunc, Value.nilFunc] 116)).heap.size := by simp
  obtain ⟨na, nb, nc⟩ := hn_.out
  obtain ⟨np, nq⟩ := hn2.out
  have hB_s := hB_.out.size
  have kp : (w2.setRow (W.heap.size + 1) #[.func (.func 259) #[] #[.pointer (some ⟨c, 0, none⟩), .pointer (some ⟨b, 0, none⟩)], .func (.func 260) #[] #[.pointer (some ⟨b, 0, none⟩), .pointer (some ⟨c, 0, none⟩)], .func (.func 263) #[] #[.pointer (some ⟨p, 0, none⟩), .pointer (some ⟨q, 0, none⟩)], .func (.func 262) #[] #[.pointer (some ⟨c, 0, none⟩)]]).heap[p]? = _ := (setRow_other w2 _ _ _ (by omega)).trans hpq.out.1
  have kq : (w2.setRow (W.heap.size + 1) #[.func (.func 259) #[] #[.pointer (some ⟨c, 0, none⟩), .pointer (some ⟨b, 0, none⟩)], .func (.func 260) #[] #[.pointer (some ⟨b, 0, none⟩), .pointer (some ⟨c, 0, none⟩)], .func (.func 263) #[] #[.pointer (some ⟨p, 0, none⟩), .pointer (some ⟨q, 0, none⟩)], .func (.func 262) #[] #[.pointer (some ⟨c, 0, none⟩)]]).heap[q]? = _ := (setRow_other w2 _ _ _ (by omega)).trans hpq.out.2
  have kw : WholeB (w2.setRow (W.heap.size + 1) #[.func (.func 259) #[] #[.pointer (some ⟨c, 0, none⟩), .pointer (some ⟨b, 0, none⟩)], .func (.func 260) #[] #[.pointer (some ⟨b, 0, none⟩), .pointer (some ⟨c, 0, none⟩)], .func (.func 263) #[] #[.pointer (some ⟨p, 0, none⟩), .pointer (some ⟨q, 0, none⟩)], .func (.func 262) #[] #[.pointer (some ⟨c, 0, none⟩)]]) _ _ _ a b c := ⟨(setRow_other w2 _ _ _ (by omega)).trans hw2.out.a, (setRow_other w2 _ _ _ (by omega)).trans hw2.out.b, (setRow_other w2 _ _ _ (by omega)).trans hw2.out.c⟩
  refine ⟨_, _, _, _, _, _, _, _, rfl, ⟨fun args w => by kernel_rfl, ent_whole4, ?_, fun W3 hs m l hr => ?_, fun W3 hs m b' to_ ht => ?_⟩⟩
  · exact below_setRow (((below_alloc (below_alloc (Below.refl _ W) _) _).trans (below_weaken' hB_.out (by omega))).trans (below_weaken' hB2_.out (by omega))) (by omega) _
  · refine also1_calls (may1 := fun m _ => decide (1 ≤ m.cl ∧ m.cl ≤ 16)) (may2 := fun m _ => cli2 m) (hs.blk kp (by omega)) (hs.blk kq (by omega)) ent_whole3 (fun args w => by kernel_rfl) (fun W' hB' m l _ => ?_) (fun W' m l _ => cli2_calls W' m) m l hr
    exact whole3_calls off_clients ent_clients ⟨blk_below (hs.blk kw.a (by omega)) hB', blk_below (hs.blk kw.b (by omega)) hB', blk_below (hs.blk kw.c (by omega)) hB'⟩ m m.cl rfl
  · exact whole4_calls off_clients ent_clients (hs.blk kw.c (by omega)) m m.cl rfl to_ b'.cells _ ht rfl
set_option maxRecDepth 100000 in
theorem fs_uptos : FieldSem 96 (fun m _ => decide (0 ≤ m.nu ∧ m.nu ≤ 1152921504606846976) && upt2 m) (fun m b => { b with nu := m.nu }) := by
  refine ⟨fun args w => by kernel_rfl, fun W => ?_⟩
  have hu := Tryz.underlying116
  go_enter Tryz.func96, Tryz.ntmps96
  go_wp2_with (first | (go_at_call 157; refine (whole_calls _ _ _ _).mono ?_; rintro e w1 ⟨a, b, c, rfl, hw, ha, hb, hc, hB⟩; (have hx := Aside0.mk ((hB.block (W.heap.size + 1) (by simp)).trans (new2 W _ _))); (have hw_ := Aside0.mk hw); clear hw; (have hn_ := Aside0.mk (And.intro ha (And.intro hb hc))); clear ha hb hc; (have hB_ := Aside0.mk hB); clear hB; simp only [WholeV]) | (go_at_call 159; refine (also_calls _ _ _ _ _ _ _ _ _ _).mono ?_; rintro e w2 ⟨p, q, rfl, hp, hq, hpn, hqn, hB2⟩; (have hx2 := Aside0.mk (blk_below hx.out hB2)); (have hw2 := Aside0.mk (show WholeB w2 _ _ _ a b c from ⟨blk_below hw_.out.a hB2, blk_below hw_.out.b hB2, blk_below hw_.out.c hB2⟩)); (have hpq := Aside0.mk (And.intro hp hq)); (have hn2 := Aside0.mk (And.intro hpn hqn)); (have hB2_ := Aside0.mk hB2); clear hB2 hp hq hpn hqn) | ((with_reducible refine wpList_store_row rfl 116 (.tmp 2) (.tmp 4) rfl (W.heap.size + 1) #[.func (.func 259) #[] #[.pointer (some ⟨c, 0, none⟩), .pointer (some ⟨b, 0, none⟩)], .func (.func 260) #[] #[.pointer (some ⟨b, 0, none⟩), .pointer (some ⟨c, 0, none⟩)], .func (.func 263) #[] #[.pointer (some ⟨p, 0, none⟩), .pointer (some ⟨q, 0, none⟩)], .func (.func 262) #[] #[.pointer (some ⟨c, 0, none⟩)]] ?d1 ?d2 116 #[.nilFunc, .nilFunc, .nilFunc, .nilFunc] ?c1 ?c2 ?c3 ?c4 ?_); (case d1 => rfl); (case d2 => rfl); (case c1 => exact hx2.out); (case c2 => exact info_field); (case c3 => rfl); (case c4 => kernel_rfl)) | go_in)
  refine bodyPost_ret (results_cell1 (P := Tryz.prog) rfl _ _ (W.heap.size + 1) 116 #[.func (.func 259) #[] #[.pointer (some ⟨c, 0, none⟩), .pointer (some ⟨b, 0, none⟩)], .func (.func 260) #[] #[.pointer (some ⟨b, 0, none⟩), .pointer (some ⟨c, 0, none⟩)], .func (.func 263) #[] #[.pointer (some ⟨p, 0, none⟩), .pointer (some ⟨q, 0, none⟩)], .func (.func 262) #[] #[.pointer (some ⟨c, 0, none⟩)]] (0, 0) _ rfl (setRow_heap w2 _ _ _ 116 (0, 0) hx2.out) hu rfl (by exact info_field)) rfl ?_
  have hsz : W.heap.size + 1 < ((W.alloc (Obj.cells #[] 118)).alloc (Obj.cells #[Value.nilFunc, Value.nilFunc, Value.nilFunc, Value.nilFunc] 116)).heap.size := by simp
  obtain ⟨na, nb, nc⟩ := hn_.out
  obtain ⟨np, nq⟩ := hn2.out
  have hB_s := hB_.out.size
  have kp : (w2.setRow (W.heap.size + 1) #[.func (.func 259) #[] #[.pointer (some ⟨c, 0, none⟩), .pointer (some ⟨b, 0, none⟩)], .func (.func 260) #[] #[.pointer (some ⟨b, 0, none⟩), .pointer (some ⟨c, 0, none⟩)], .func (.func 263) #[] #[.pointer (some ⟨p, 0, none⟩), .pointer (some ⟨q, 0, none⟩)], .func (.func 262) #[] #[.pointer (some ⟨c, 0, none⟩)]]).heap[p]? = _ := (setRow_other w2 _ _ _ (by omega)).trans hpq.out.1
  have kq : (w2.setRow (W.heap.size + 1) #[.func (.func 259) #[] #[.pointer (some ⟨c, 0, none⟩), .pointer (some ⟨b, 0, none⟩)], .func (.func 260) #[] #[.pointer (some ⟨b, 0, none⟩), .pointer (some ⟨c, 0, none⟩)], .func (.func 263) #[] #[.pointer (some ⟨p, 0, none⟩), .pointer (some ⟨q, 0, none⟩)], .func (.func 262) #[] #[.pointer (some ⟨c, 0, none⟩)]]).heap[q]? = _ := (setRow_other w2 _ _ _ (by omega)).trans hpq.out.2
  have kw : WholeB (w2.setRow (W.heap.size + 1) #[.func (.func 259) #[] #[.pointer (some ⟨c, 0, none⟩), .pointer (some ⟨b, 0, none⟩)], .func (.func 260) #[] #[.pointer (some ⟨b, 0, none⟩), .pointer (some ⟨c, 0, none⟩)], .func (.func 263) #[] #[.pointer (some ⟨p, 0, none⟩), .pointer (some ⟨q, 0, none⟩)], .func (.func 262) #[] #[.pointer (some ⟨c, 0, none⟩)]]) _ _ _ a b c := ⟨(setRow_other w2 _ _ _ (by omega)).trans hw2.out.a, (setRow_other w2 _ _ _ (by omega)).trans hw2.out.b, (setRow_other w2 _ _ _ (by omega)).trans hw2.out.c⟩
  refine ⟨_, _, _, _, _, _, _, _, rfl, ⟨fun args w => by kernel_rfl, ent_whole4, ?_, fun W3 hs m l hr => ?_, fun W3 hs m b' to_ ht => ?_⟩⟩
  · exact below_setRow (((below_alloc (below_alloc (Below.refl _ W) _) _).trans (below_weaken' hB_.out (by omega))).trans (below_weaken' hB2_.out (by omega))) (by omega) _
  · refine also1_calls (may1 := fun m _ => decide (0 ≤ m.nu ∧ m.nu ≤ 1152921504606846976)) (may2 := fun m _ => upt2 m) (hs.blk kp (by omega)) (hs.blk kq (by omega)) ent_whole3 (fun args w => by kernel_rfl) (fun W' hB' m l _ => ?_) (fun W' m l _ => upt2_calls W' m) m l hr
    exact whole3_calls off_uptos ent_uptos ⟨blk_below (hs.blk kw.a (by omega)) hB', blk_below (hs.blk kw.b (by omega)) hB', blk_below (hs.blk kw.c (by omega)) hB'⟩ m m.nu rfl
  · exact whole4_calls off_uptos ent_uptos (hs.blk kw.c (by omega)) m m.nu rfl to_ b'.cells _ ht rfl
set_option maxRecDepth 100000 in
theorem fs_joiners : FieldSem 106 (fun m _ => decide (1 ≤ m.nu ∧ m.nu ≤ 8) && joi2 m) (fun m b => { b with nu := m.nu }) := by
  refine ⟨fun args w => by kernel_rfl, fun W => ?_⟩
  have hu := Tryz.underlying116
  go_enter Tryz.func106, Tryz.ntmps106
  go_wp2_with (first | (go_at_call 157; refine (whole_calls _ _ _ _).mono ?_; rintro e w1 ⟨a, b, c, rfl, hw, ha, hb, hc, hB⟩; (have hx := Aside0.mk ((hB.block (W.heap.size + 1) (by simp)).trans (new2 W _ _))); (have hw_ := Aside0.mk hw); clear hw; (have hn_ := Aside0.mk (And.intro ha (And.intro hb hc))); clear ha hb hc; (have hB_ := Aside0.mk hB); clear hB; simp only [WholeV]) | (go_at_call 159; refine (also_calls _ _ _ _ _ _ _ _ _ _).mono ?_; rintro e w2 ⟨p, q, rfl, hp, hq, hpn, hqn, hB2⟩; (have hx2 := Aside0.mk (blk_below hx.out hB2)); (have hw2 := Aside0.mk (show WholeB w2 _ _ _ a b c from ⟨blk_below hw_.out.a hB2, blk_below hw_.out.b hB2, blk_below hw_.out.c hB2⟩)); (have hpq := Aside0.mk (And.intro hp hq)); (have hn2 := Aside0.mk (And.intro hpn hqn)); (have hB2_ := Aside0.mk hB2); clear hB2 hp hq hpn hqn) | ((with_reducible refine wpList_store_row rfl 116 (.tmp 2) (.tmp 4) rfl (W.heap.size + 1) #[.func (.func 259) #[] #[.pointer (some ⟨c, 0, none⟩), .pointer (some ⟨b, 0, none⟩)], .func (.func 260) #[] #[.pointer (some ⟨b, 0, none⟩), .pointer (some ⟨c, 0, none⟩)], .func (.func 263) #[] #[.pointer (some ⟨p, 0, none⟩), .pointer (some ⟨q, 0, none⟩)], .func (.func 262) #[] #[.pointer (some ⟨c, 0, none⟩)]] ?d1 ?d2 116 #[.nilFunc, .nilFunc, .nilFunc, .nilFunc] ?c1 ?c2 ?c3 ?c4 ?_); (case d1 => rfl); (case d2 => rfl); (case c1 => exact hx2.out); (case c2 => exact info_field); (case c3 => rfl); (case c4 => kernel_rfl)) | go_in)
  refine bodyPost_ret (results_cell1 (P := Tryz.prog) rfl _ _ (W.heap.size + 1) 116 #[.func (.func 259) #[] #[.pointer (some ⟨c, 0, none⟩), .pointer (some ⟨b, 0, none⟩)], .func (.func 260) #[] #[.pointer (some ⟨b, 0, none⟩), .pointer (some ⟨c, 0, none⟩)], .func (.func 263) #[] #[.pointer (some ⟨p, 0, none⟩), .pointer (some ⟨q, 0, none⟩)], .func (.func 262) #[] #[.pointer (some ⟨c, 0, none⟩)]] (0, 0) _ rfl (setRow_heap w2 _ _ _ 116 (0, 0) hx2.out) hu rfl (by exact info_field)) rfl ?_
  have hsz : W.heap.size + 1 < ((W.alloc (Obj.cells #[] 118)).alloc (Obj.cells #[Value.nilFunc, Value.nilFunc, Value.nilFunc, Value.nilFunc] 116)).heap.size := by simp
  obtain ⟨na, nb, nc⟩ := hn_.out
  obtain ⟨np, nq⟩ := hn2.out
  have hB_s := hB_.out.size
  have kp : (w2.setRow (W.heap.size + 1) #[.func (.func 259) #[] #[.pointer (some ⟨c, 0, none⟩), .pointer (some ⟨b, 0, none⟩)], .func (.func 260) #[] #[.pointer (some ⟨b, 0, none⟩), .pointer (some ⟨c, 0, none⟩)], .func (.func 263) #[] #[.pointer (some ⟨p, 0, none⟩), .pointer (some ⟨q, 0, none⟩)], .func (.func 262) #[] #[.pointer (some ⟨c, 0, none⟩)]]).heap[p]? = _ := (setRow_other w2 _ _ _ (by omega)).trans hpq.out.1
  have kq : (w2.setRow (W.heap.size + 1) #[.func (.func 259) #[] #[.pointer (some ⟨c, 0, none⟩), .pointer (some ⟨b, 0, none⟩)], .func (.func 260) #[] #[.pointer (some ⟨b, 0, none⟩), .pointer (some ⟨c, 0, none⟩)], .func (.func 263) #[] #[.pointer (some ⟨p, 0, none⟩), .pointer (some ⟨q, 0, none⟩)], .func (.func 262) #[] #[.pointer (some ⟨c, 0, none⟩)]]).heap[q]? = _ := (setRow_other w2 _ _ _ (by omega)).trans hpq.out.2
  have kw : WholeB (w2.setRow (W.heap.size + 1) #[.func (.func 259) #[] #[.pointer (some ⟨c, 0, none⟩), .pointer (some ⟨b, 0, none⟩)], .func (.func 260) #[] #[.pointer (some ⟨b, 0, none⟩), .pointer (some ⟨c, 0, none⟩)], .func (.func 263) #[] #[.pointer (some ⟨p, 0, none⟩), .pointer (some ⟨q, 0, none⟩)], .func (.func 262) #[] #[.pointer (some ⟨c, 0, none⟩)]]) _ _ _ a b c := ⟨(setRow_other w2 _ _ _ (by omega)).trans hw2.out.a, (setRow_other w2 _ _ _ (by omega)).trans hw2.out.b, (setRow_other w2 _ _ _ (by omega)).trans hw2.out.c⟩
  refine ⟨_, _, _, _, _, _, _, _, rfl, ⟨fun args w => by kernel_rfl, ent_whole4, ?_, fun W3 hs m l hr => ?_, fun W3 hs m b' to_ ht => ?_⟩⟩
  · exact below_setRow (((below_alloc (below_alloc (Below.refl _ W) _) _).trans (below_weaken' hB_.out (by omega))).trans (below_weaken' hB2_.out (by omega))) (by omega) _
  · refine also1_calls (may1 := fun m _ => decide (1 ≤ m.nu ∧ m.nu ≤ 8)) (may2 := fun m _ => joi2 m) (hs.blk kp (by omega)) (hs.blk kq (by omega)) ent_whole3 (fun args w => by kernel_rfl) (fun W' hB' m l _ => ?_) (fun W' m l _ => joi2_calls W' m) m l hr
    exact whole3_calls off_joiners ent_joiners ⟨blk_below (hs.blk kw.a (by omega)) hB', blk_below (hs.blk kw.b (by omega)) hB', blk_below (hs.blk kw.c (by omega)) hB'⟩ m m.nu rfl
  · exact whole4_calls off_joiners ent_joiners (hs.blk kw.c (by omega)) m m.nu rfl to_ b'.cells _ ht rfl
set_option maxRecDepth 100000 in
theorem fs_attempts0 : FieldSem 93 (fun m _ => decide (0 ≤ m.att ∧ m.att ≤ 1152921504606846976) && att2 m) (fun m b => { b with att := m.att }) := by
  refine ⟨fun args w => by kernel_rfl, fun W => ?_⟩
  have hu := Tryz.underlying116
  go_enter Tryz.func93, Tryz.ntmps93
  go_wp2_with (first | (go_at_call 157; refine (whole_calls _ _ _ _).mono ?_; rintro e w1 ⟨a, b, c, rfl, hw, ha, hb, hc, hB⟩; (have hx := Aside0.mk ((hB.block (W.heap.size + 1) (by simp)).trans (new2 W _ _))); (have hw_ := Aside0.mk hw); clear hw; (have hn_ := Aside0.mk (And.intro ha (And.intro hb hc))); clear ha hb hc; (have hB_ := Aside0.mk hB); clear hB; simp only [WholeV]) | (go_at_call 159; refine (also_calls _ _ _ _ _ _ _ _ _ _).mono ?_; rintro e w2 ⟨p, q, rfl, hp, hq, hpn, hqn, hB2⟩; (have hx2 := Aside0.mk (blk_below hx.out hB2)); (have hw2 := Aside0.mk (show WholeB w2 _ _ _ a b c from ⟨blk_below hw_.out.a hB2, blk_below hw_.out.b hB2, blk_below hw_.out.c hB2⟩)); (have hpq := Aside0.mk (And.intro hp hq)); (have hn2 := Aside0.mk (And.intro hpn hqn)); (have hB2_ := Aside0.mk hB2); clear hB2 hp hq hpn hqn) | ((with_reducible refine wpList_store_row rfl 116 (.tmp 2) (.tmp 4) rfl (W.heap.size + 1) #[.func (.func 259) #[] #[.pointer (some ⟨c, 0, none⟩), .pointer (some ⟨b, 0, none⟩)], .func (.func 260) #[] #[.pointer (some ⟨b, 0, none⟩), .pointer (some ⟨c, 0, none⟩)], .func (.func 263) #[] #[.pointer (some ⟨p, 0, none⟩), .pointer (some ⟨q, 0, none⟩)], .func (.func 262) #[] #[.pointer (some ⟨c, 0, none⟩)]] ?d1 ?d2 116 #[.nilFunc, .nilFunc, .nilFunc, .nilFunc] ?c1 ?c2 ?c3 ?c4 ?_); (case d1 => rfl); (case d2 => rfl); (case c1 => exact hx2.out); (case c2 => exact info_field); (case c3 => rfl); (case c4 => kernel_rfl)) | go_in)
  refine bodyPost_ret (results_cell1 (P := Tryz.prog) rfl _ _ (W.heap.size + 1) 116 #[.func (.func 259) #[] #[.pointer (some ⟨c, 0, none⟩), .pointer (some ⟨b, 0, none⟩)], .func (.func 260) #[] #[.pointer (some ⟨b, 0, none⟩), .pointer (some ⟨c, 0, none⟩)], .func (.func 263) #[] #[.pointer (some ⟨p, 0, none⟩), .pointer (some ⟨q, 0, none⟩)], .func (.func 262) #[] #[.pointer (some ⟨c, 0, none⟩)]] (0, 0) _ rfl (setRow_heap w2 _ _ _ 116 (0, 0) hx2.out) hu rfl (by exact info_field)) rfl ?_
  have hsz : W.heap.size + 1 < ((W.alloc (Obj.cells #[] 118)).alloc (Obj.cells #[Value.nilFunc, Value.nilFunc, Value.nilFunc, Value.nilFunc] 116)).heap.size := by simp
  obtain ⟨na, nb, nc⟩ := hn_.out
  obtain ⟨np, nq⟩ := hn2.out
  have hB_s := hB_.out.size
  have kp : (w2.setRow (W.heap.size + 1) #[.func (.func 259) #[] #[.pointer (some ⟨c, 0, none⟩), .pointer (some ⟨b, 0, none⟩)], .func (.func 260) #[] #[.pointer (some ⟨b, 0, none⟩), .pointer (some ⟨c, 0, none⟩)], .func (.func 263) #[] #[.pointer (some ⟨p, 0, none⟩), .pointer (some ⟨q, 0, none⟩)], .func (.func 262) #[] #[.pointer (some ⟨c, 0, none⟩)]]).heap[p]? = _ := (setRow_other w2 _ _ _ (by omega)).trans hpq.out.1
  have kq : (w2.setRow (W.heap.size + 1) #[.func (.func 259) #[] #[.pointer (some ⟨c, 0, none⟩), .pointer (some ⟨b, 0, none⟩)], .func (.func 260) #[] #[.pointer (some ⟨b, 0, none⟩), .pointer (some ⟨c, 0, none⟩)], .func (.func 263) #[] #[.pointer (some ⟨p, 0, none⟩), .pointer (some ⟨q, 0, none⟩)], .func (.func 262) #[] #[.pointer (some ⟨c, 0, none⟩)]]).heap[q]? = _ := (setRow_other w2 _ _ _ (by omega)).trans hpq.out.2
  have kw : WholeB (w2.setRow (W.heap.size + 1) #[.func (.func 259) #[] #[.pointer (some ⟨c, 0, none⟩), .pointer (some ⟨b, 0, none⟩)], .func (.func 260) #[] #[.pointer (some ⟨b, 0, none⟩), .pointer (some ⟨c, 0, none⟩)], .func (.func 263) #[] #[.pointer (some ⟨p, 0, none⟩), .pointer (some ⟨q, 0, none⟩)], .func (.func 262) #[] #[.pointer (some ⟨c, 0, none⟩)]]) _ _ _ a b c := ⟨(setRow_other w2 _ _ _ (by omega)).trans hw2.out.a, (setRow_other w2 _ _ _ (by omega)).trans hw2.out.b, (setRow_other w2 _ _ _ (by omega)).trans hw2.out.c⟩
  refine ⟨_, _, _, _, _, _, _, _, rfl, ⟨fun args w => by kernel_rfl, ent_whole4, ?_, fun W3 hs m l hr => ?_, fun W3 hs m b' to_ ht => ?_⟩⟩
  · exact below_setRow (((below_alloc (below_alloc (Below.refl _ W) _) _).trans (below_weaken' hB_.out (by omega))).trans (below_weaken' hB2_.out (by omega))) (by omega) _
  · refine also1_calls (may1 := fun m _ => decide (0 ≤ m.att ∧ m.att ≤ 1152921504606846976)) (may2 := fun m _ => att2 m) (hs.blk kp (by omega)) (hs.blk kq (by omega)) ent_whole3 (fun args w => by kernel_rfl) (fun W' hB' m l _ => ?_) (fun W' m l _ => att2_calls W' m) m l hr
    exact whole3_calls off_attempts0 ent_attempts0 ⟨blk_below (hs.blk kw.a (by omega)) hB', blk_below (hs.blk kw.b (by omega)) hB', blk_below (hs.blk kw.c (by omega)) hB'⟩ m m.att rfl
  · exact whole4_calls off_attempts0 ent_attempts0 (hs.blk kw.c (by omega)) m m.att rfl to_ b'.cells _ ht rfl
end Msg

end Go.Proofs.YtepkaaplhcbkbaaGreat.G
