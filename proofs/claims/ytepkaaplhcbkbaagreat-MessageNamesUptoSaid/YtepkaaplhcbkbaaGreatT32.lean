import Derived.Test.YtepkaaplhcbkbaaGreatT8
import Derived.Test.YtepkaaplhcbkbaaGreatT31
import Derived.Deep.Upon
import Derived.Deep.QuietTactic
import Derived.BigQuiet
import Derived.Deep.RegionHeld3
import Derived.Deep.DeepCutAuto
import Derived.Deep.CutBlock
import Derived.Laws.EntriesVeiled
import Derived.StillTailTactics
import Derived.Laws.Tables
import Derived.Laws.CopyOwn
import Derived.Great.Walk
import Derived.Great.BuildSlice
import Derived.IntWalk
import Derived.Test.YtepkaaplhcbkbaaGreatBlocks
import Derived.Laws.CopyOwn
import Derived.Laws.Tables
import Derived.Outline
namespace Go.Proofs.YtepkaaplhcbkbaaGreat.G
open Go.RowKit Go.Proofs.YtepkaaplhcbkbaaGreatW.PrintWords Go.Proofs.YtepkaaplhcbkbaaGreatW.PrintLast Go.Proofs.YtepkaaplhcbkbaaGreatW.PrintMore
set_option linter.unusedVariables false
set_option linter.unusedSimpArgs false
namespace Msg
open Pk
set_option maxRecDepth 100000
theorem ent_whole1 : Enters 259 := fun args w => by kernel_rfl
theorem PW.drewN {W : World} {base p : Nat} {xs : List Int} (h : PW W base p xs) (n : Nat) : PW (W.drewN n) base p xs := h.below (Drawn0.below ⟨n, rfl⟩)
set_option maxHeartbeats 1000000 in
/-- A number is laid down. -/
theorem whole1_calls {f : FuncId} {i : Nat} (hf : Off f i) (he : Enters f) {W : World} {lo hi : Int} {a b c : Nat} (hw : WholeB W f lo hi a b c) (m : Mg) (x : Int) (hx : m.cells[i]? = some (.int .i64 x)) (h0 : 0 ≤ x) (h1 : x ≤ hi) (h2 : hi ≤ 9223372036854775807) {base p : Nat} {xs : List Int} (hp : PW W base p xs) (hl : xs.length ≤ 1099511627776) :
    Calls Tryz.prog 259 #[.agg m.cells, .pointer (some ⟨p, 0, none⟩), .pointer (some ⟨c, 0, none⟩), .pointer (some ⟨b, 0, none⟩)] W fun e w => e = .returned (.tuple #[]) ∧ PW w base p (xs ++ ubs x) ∧ Below base W w ∧ Kp p W w := by
  have hcf : ∀ (args : Array Value) (w : World), Sem.run Tryz.prog (callFunc f args) w = .ok (.enter f args) w := he
  have HP := Aside0.mk (hp.below (below_alloc (Below.refl W.heap.size W) (.cells m.cells 49)))
  have HG := Aside0.mk (Nat.le_trans hp.ge (Nat.le_of_lt hp.lt))
  have hb0 : (W.alloc (.cells m.cells 49)).cell? ⟨b, 0, none⟩ = some (.int .i64 hi) := blk_cell (blk_alloc hw.b _) 0
  have hc0 : (W.alloc (.cells m.cells 49)).cell? ⟨c, 0, none⟩ = some (.func (.func f) #[] #[]) := blk_cell (blk_alloc hw.c _) 0
  have hx0 : (W.alloc (.cells m.cells 49)).cell? ⟨W.heap.size, i, none⟩ = some (.int .i64 x) := (blk_cell (blk_new _ _) i).trans hx
  have HB := Aside0.mk ((Below.refl base W).alloc HG.out (.cells m.cells 49))
  have HQ := Aside0.mk (below_alloc (Below.refl W.heap.size W) (.cells m.cells 49))
  have HH := Aside0.mk (And.intro h0 (And.intro h1 h2))
  clear hw hx hp h0 h1 h2
  go_enter Tryz.func259, Tryz.ntmps259
  go_upto_region 1 with fail
  generalize W.alloc (.cells m.cells 49) = w1 at HP hb0 hc0 hx0 HB HQ ⊢
  go_still_tail 6, (by kernel_rfl)
  still_call (hf _ _)
  repeat still_step
  refine wpStill_nil ?_
  change wpList _ _ _ _ _ w1.drew
  have HP1 := Aside0.mk (show PW w1.drew base p xs from PW.drewN HP.out 1)
  have HB1 := Aside0.mk (show Below base W w1.drew from HB.out.trans (below_weaken' (Drawn0.below ⟨1, rfl⟩) (Nat.le_trans HG.out HB.out.size)))
  have HQ1 := Aside0.mk (show Below W.heap.size W w1.drew from HQ.out.trans (below_weaken' (Drawn0.below ⟨1, rfl⟩) HQ.out.size))
  clear HP HB HQ hb0 hc0 hx0
  generalize w1.drew = w2 at HP1 HB1 HQ1 ⊢
  go_wp2_with (first | (go_at_call 170; refine (pint_calls HP1.out x hi HH.out.1 HH.out.2.1 HH.out.2.2 hl).mono ?_; rintro r w3 ⟨rfl, h3, hb3, hk3⟩) | go_in)
  go_end0
  exact ⟨rfl, h3, HB1.out.trans hb3, (Kp.of HQ1.out).trans hk3⟩
def LayAt (f : FuncId) (c : Array Value) (W : World) (may : Mg → Ls → Bool) (lay : Mg → Ls → List Int) : Prop := ∀ m l base p xs, may m l = true → Rd W m l → PW W base p xs → xs.length ≤ 1099511627776 → Calls Tryz.prog f (#[.agg m.cells, .pointer (some ⟨p, 0, none⟩)] ++ c) W fun e w => e = .returned (.tuple #[]) ∧ PW w base p (xs ++ lay m l) ∧ Below base W w ∧ Kp p W w
/-- What a field's first closure does. -/
structure LaySem (f : FuncId) (may : Mg → Ls → Bool) (lay : Mg → Ls → List Int) : Prop where
  ent : Enters f
  run : ∀ W, Calls Tryz.prog f #[.agg #[]] W fun e w => ∃ f0 c0 f1 c1 f2 c2 f3 c3, e = .returned (.agg #[.func (.func f0) #[] c0, .func (.func f1) #[] c1, .func (.func f2) #[] c2, .func (.func f3) #[] c3]) ∧ Below W.heap.size W w ∧ Enters f0 ∧ ∀ W3, Same W.heap.size w W3 → LayAt f0 c0 W3 may lay
set_option maxRecDepth 100000 in
theorem ls_epochs : LaySem 87 (fun m _ => decide (1 ≤ m.ep ∧ m.ep ≤ 1099511627776)) (fun m _ => ubs m.ep) := by
  refine ⟨fun args w => by kernel_rfl, fun W => ?_⟩
  have hu := Tryz.underlying116
  go_enter Tryz.func87, Tryz.ntmps87
  go_wp2_with (first | (go_at_call 157; refine (whole_calls _ _ _ _).mono ?_; rintro e w1 ⟨a, b, c, rfl, hw, ha, hb, hc, hB⟩; (have hx := Aside0.mk ((hB.block (W.heap.size + 1) (by simp)).trans (new2 W _ _))); (have hw_ := Aside0.mk hw); clear hw; (have hn_ := Aside0.mk (And.intro ha (And.intro hb hc))); clear ha hb hc; (have hB_ := Aside0.mk hB); clear hB; simp only [WholeV]) | ((with_reducible refine wpList_store_row rfl 116 (.tmp 2) (.tmp 3) rfl (W.heap.size + 1) #[.func (.func 259) #[] #[.pointer (some ⟨c, 0, none⟩), .pointer (some ⟨b, 0, none⟩)], .func (.func 260) #[] #[.pointer (some ⟨b, 0, none⟩), .pointer (some ⟨c, 0, none⟩)], .func (.func 261) #[] #[.pointer (some ⟨c, 0, none⟩), .pointer (some ⟨a, 0, none⟩), .pointer (some ⟨b, 0, none⟩)], .func (.func 262) #[] #[.pointer (some ⟨c, 0, none⟩)]] ?d1 ?d2 116 #[.nilFunc, .nilFunc, .nilFunc, .nilFunc] ?c1 ?c2 ?c3 ?c4 ?_); (case d1 => rfl); (case d2 => rfl); (case c1 => exact hx.out); (case c2 => exact info_field); (case c3 => rfl); (case c4 => kernel_rfl)) | go_in)
  refine bodyPost_ret (results_cell1 (P := Tryz.prog) rfl _ _ (W.heap.size + 1) 116 #[.func (.func 259) #[] #[.pointer (some ⟨c, 0, none⟩), .pointer (some ⟨b, 0, none⟩)], .func (.func 260) #[] #[.pointer (some ⟨b, 0, none⟩), .pointer (some ⟨c, 0, none⟩)], .func (.func 261) #[] #[.pointer (some ⟨c, 0, none⟩), .pointer (some ⟨a, 0, none⟩), .pointer (some ⟨b, 0, none⟩)], .func (.func 262) #[] #[.pointer (some ⟨c, 0, none⟩)]] (0, 0) _ rfl (setRow_heap w1 _ _ _ 116 (0, 0) hx.out) hu rfl (by exact info_field)) rfl ?_
  have hsz : W.heap.size + 1 < ((W.alloc (Obj.cells #[] 118)).alloc (Obj.cells #[Value.nilFunc, Value.nilFunc, Value.nilFunc, Value.nilFunc] 116)).heap.size := by simp
  obtain ⟨na, nb, nc⟩ := hn_.out
  refine ⟨_, _, _, _, _, _, _, _, rfl, ?_, ent_whole1, fun W3 hs m l base p xs hm hr hp hl => ?_⟩
  · exact below_setRow ((below_alloc (below_alloc (Below.refl _ W) _) _).trans (below_weaken' hB_.out (by omega))) (by omega) _
  · have hm2 : 1 ≤ m.ep ∧ m.ep ≤ 1099511627776 := of_decide_eq_true hm
    exact whole1_calls off_epochs ent_epochs ⟨hs.blk ((setRow_other w1 _ _ _ (by omega)).trans hw_.out.a) (by omega), hs.blk ((setRow_other w1 _ _ _ (by omega)).trans hw_.out.b) (by omega), hs.blk ((setRow_other w1 _ _ _ (by omega)).trans hw_.out.c) (by omega)⟩ m m.ep rfl (by omega) hm2.2 (by decide) hp hl
set_option maxRecDepth 100000 in
theorem ls_sinces : LaySem 92 (fun m _ => decide (0 ≤ m.ep ∧ m.ep ≤ 1099511627776)) (fun m _ => ubs m.ep) := by
  refine ⟨fun args w => by kernel_rfl, fun W => ?_⟩
  have hu := Tryz.underlying116
  go_enter Tryz.func92, Tryz.ntmps92
  go_wp2_with (first | (go_at_call 157; refine (whole_calls _ _ _ _).mono ?_; rintro e w1 ⟨a, b, c, rfl, hw, ha, hb, hc, hB⟩; (have hx := Aside0.mk ((hB.block (W.heap.size + 1) (by simp)).trans (new2 W _ _))); (have hw_ := Aside0.mk hw); clear hw; (have hn_ := Aside0.mk (And.intro ha (And.intro hb hc))); clear ha hb hc; (have hB_ := Aside0.mk hB); clear hB; simp only [WholeV]) | ((with_reducible refine wpList_store_row rfl 116 (.tmp 2) (.tmp 3) rfl (W.heap.size + 1) #[.func (.func 259) #[] #[.pointer (some ⟨c, 0, none⟩), .pointer (some ⟨b, 0, none⟩)], .func (.func 260) #[] #[.pointer (some ⟨b, 0, none⟩), .pointer (some ⟨c, 0, none⟩)], .func (.func 261) #[] #[.pointer (some ⟨c, 0, none⟩), .pointer (some ⟨a, 0, none⟩), .pointer (some ⟨b, 0, none⟩)], .func (.func 262) #[] #[.pointer (some ⟨c, 0, none⟩)]] ?d1 ?d2 116 #[.nilFunc, .nilFunc, .nilFunc, .nilFunc] ?c1 ?c2 ?c3 ?c4 ?_); (case d1 => rfl); (case d2 => rfl); (case c1 => exact hx.out); (case c2 => exact info_field); (case c3 => rfl); (case c4 => kernel_rfl)) | go_in)
  refine bodyPost_ret (results_cell1 (P := Tryz.prog) rfl _ _ (W.heap.size + 1) 116 #[.func (.func 259) #[] #[.pointer (some ⟨c, 0, none⟩), .pointer (some ⟨b, 0, none⟩)], .func (.func 260) #[] #[.pointer (some ⟨b, 0, none⟩), .pointer (some ⟨c, 0, none⟩)], .func (.func 261) #[] #[.pointer (some ⟨c, 0, none⟩), .pointer (some ⟨a, 0, none⟩), .pointer (some ⟨b, 0, none⟩)], .func (.func 262) #[] #[.pointer (some ⟨c, 0, none⟩)]] (0, 0) _ rfl (setRow_heap w1 _ _ _ 116 (0, 0) hx.out) hu rfl (by exact info_field)) rfl ?_
  have hsz : W.heap.size + 1 < ((W.alloc (Obj.cells #[] 118)).alloc (Obj.cells #[Value.nilFunc, Value.nilFunc, Value.nilFunc, Value.nilFunc] 116)).heap.size := by simp
  obtain ⟨na, nb, nc⟩ := hn_.out
  refine ⟨_, _, _, _, _, _, _, _, rfl, ?_, ent_whole1, fun W3 hs m l base p xs hm hr hp hl => ?_⟩
  · exact below_setRow ((below_alloc (below_alloc (Below.refl _ W) _) _).trans (below_weaken' hB_.out (by omega))) (by omega) _
  · have hm2 : 0 ≤ m.ep ∧ m.ep ≤ 1099511627776 := of_decide_eq_true hm
    exact whole1_calls off_sinces ent_sinces ⟨hs.blk ((setRow_other w1 _ _ _ (by omega)).trans hw_.out.a) (by omega), hs.blk ((setRow_other w1 _ _ _ (by omega)).trans hw_.out.b) (by omega), hs.blk ((setRow_other w1 _ _ _ (by omega)).trans hw_.out.c) (by omega)⟩ m m.ep rfl (by omega) hm2.2 (by decide) hp hl
set_option maxRecDepth 100000 in
theorem ls_attempts : LaySem 97 (fun m _ => decide (1 ≤ m.att ∧ m.att ≤ 1152921504606846976)) (fun m _ => ubs m.att) := by
  refine ⟨fun args w => by kernel_rfl, fun W => ?_⟩
  have hu := Tryz.underlying116
  go_enter Tryz.func97, Tryz.ntmps97
  go_wp2_with (first | (go_at_call 157; refine (whole_calls _ _ _ _).mono ?_; rintro e w1 ⟨a, b, c, rfl, hw, ha, hb, hc, hB⟩; (have hx := Aside0.mk ((hB.block (W.heap.size + 1) (by simp)).trans (new2 W _ _))); (have hw_ := Aside0.mk hw); clear hw; (have hn_ := Aside0.mk (And.intro ha (And.intro hb hc))); clear ha hb hc; (have hB_ := Aside0.mk hB); clear hB; simp only [WholeV]) | ((with_reducible refine wpList_store_row rfl 116 (.tmp 2) (.tmp 3) rfl (W.heap.size + 1) #[.func (.func 259) #[] #[.pointer (some ⟨c, 0, none⟩), .pointer (some ⟨b, 0, none⟩)], .func (.func 260) #[] #[.pointer (some ⟨b, 0, none⟩), .pointer (some ⟨c, 0, none⟩)], .func (.func 261) #[] #[.pointer (some ⟨c, 0, none⟩), .pointer (some ⟨a, 0, none⟩), .pointer (some ⟨b, 0, none⟩)], .func (.func 262) #[] #[.pointer (some ⟨c, 0, none⟩)]] ?d1 ?d2 116 #[.nilFunc, .nilFunc, .nilFunc, .nilFunc] ?c1 ?c2 ?c3 ?c4 ?_); (case d1 => rfl); (case d2 => rfl); (case c1 => exact hx.out); (case c2 => exact info_field); (case c3 => rfl); (case c4 => kernel_rfl)) | go_in)
  refine bodyPost_ret (results_cell1 (P := Tryz.prog) rfl _ _ (W.heap.size + 1) 116 #[.func (.func 259) #[] #[.pointer (some ⟨c, 0, none⟩), .pointer (some ⟨b, 0, none⟩)], .func (.func 260) #[] #[.pointer (some ⟨b, 0, none⟩), .pointer (some ⟨c, 0, none⟩)], .func (.func 261) #[] #[.pointer (some ⟨c, 0, none⟩), .pointer (some ⟨a, 0, none⟩), .pointer (some ⟨b, 0, none⟩)], .func (.func 262) #[] #[.pointer (some ⟨c, 0, none⟩)]] (0, 0) _ rfl (setRow_heap w1 _ _ _ 116 (0, 0) hx.out) hu rfl (by exact info_field)) rfl ?_
  have hsz : W.heap.size + 1 < ((W.alloc (Obj.cells #[] 118)).alloc (Obj.cells #[Value.nilFunc, Value.nilFunc, Value.nilFunc, Value.nilFunc] 116)).heap.size := by simp
  obtain ⟨na, nb, nc⟩ := hn_.out
  refine ⟨_, _, _, _, _, _, _, _, rfl, ?_, ent_whole1, fun W3 hs m l base p xs hm hr hp hl => ?_⟩
  · exact below_setRow ((below_alloc (below_alloc (Below.refl _ W) _) _).trans (below_weaken' hB_.out (by omega))) (by omega) _
  · have hm2 : 1 ≤ m.att ∧ m.att ≤ 1152921504606846976 := of_decide_eq_true hm
    exact whole1_calls off_attempts ent_attempts ⟨hs.blk ((setRow_other w1 _ _ _ (by omega)).trans hw_.out.a) (by omega), hs.blk ((setRow_other w1 _ _ _ (by omega)).trans hw_.out.b) (by omega), hs.blk ((setRow_other w1 _ _ _ (by omega)).trans hw_.out.c) (by omega)⟩ m m.att rfl (by omega) hm2.2 (by decide) hp hl
set_option maxRecDepth 100000 in
theorem ls_numbers : LaySem 85 (fun m _ => decide (1 ≤ m.nu ∧ m.nu ≤ 1152921504606846976)) (fun m _ => ubs m.nu) := by
  refine ⟨fun args w => by kernel_rfl, fun W => ?_⟩
  have hu := Tryz.underlying116
  go_enter Tryz.func85, Tryz.ntmps85
  go_wp2_with (first | (go_at_call 157; refine (whole_calls _ _ _ _).mono ?_; rintro e w1 ⟨a, b, c, rfl, hw, ha, hb, hc, hB⟩; (have hx := Aside0.mk ((hB.block (W.heap.size + 1) (by simp)).trans (new2 W _ _))); (have hw_ := Aside0.mk hw); clear hw; (have hn_ := Aside0.mk (And.intro ha (And.intro hb hc))); clear ha hb hc; (have hB_ := Aside0.mk hB); clear hB; simp only [WholeV]) | ((with_reducible refine wpList_store_row rfl 116 (.tmp 2) (.tmp 3) rfl (W.heap.size + 1) #[.func (.func 259) #[] #[.pointer (some ⟨c, 0, none⟩), .pointer (some ⟨b, 0, none⟩)], .func (.func 260) #[] #[.pointer (some ⟨b, 0, none⟩), .pointer (some ⟨c, 0, none⟩)], .func (.func 261) #[] #[.pointer (some ⟨c, 0, none⟩), .pointer (some ⟨a, 0, none⟩), .pointer (some ⟨b, 0, none⟩)], .func (.func 262) #[] #[.pointer (some ⟨c, 0, none⟩)]] ?d1 ?d2 116 #[.nilFunc, .nilFunc, .nilFunc, .nilFunc] ?c1 ?c2 ?c3 ?c4 ?_); (case d1 => rfl); (case d2 => rfl); (case c1 => exact hx.out); (case c2 => exact info_field); (case c3 => rfl); (case c4 => kernel_rfl)) | go_in)
  refine bodyPost_ret (results_cell1 (P := Tryz.prog) rfl _ _ (W.heap.size + 1) 116 #[.func (.func 259) #[] #[.pointer (some ⟨c, 0, none⟩), .pointer (some ⟨b, 0, none⟩)], .func (.func 260) #[] #[.pointer (some ⟨b, 0, none⟩), .pointer (some ⟨c, 0, none⟩)], .func (.func 261) #[] #[.pointer (some ⟨c, 0, none⟩), .pointer (some ⟨a, 0, none⟩), .pointer (some ⟨b, 0, none⟩)], .func (.func 262) #[] #[.pointer (some ⟨c, 0, none⟩)]] (0, 0) _ rfl (setRow_heap w1 _ _ _ 116 (0, 0) hx.out) hu rfl (by exact info_field)) rfl ?_
  have hsz : W.heap.size + 1 < ((W.alloc (Obj.cells #[] 118)).alloc (Obj.cells #[Value.nilFunc, Value.nilFunc, Value.nilFunc, Value.nilFunc] 116)).heap.size := by simp
  obtain ⟨na, nb, nc⟩ := hn_.out
  refine ⟨_, _, _, _, _, _, _, _, rfl, ?_, ent_whole1, fun W3 hs m l base p xs hm hr hp hl => ?_⟩
  · exact below_setRow ((below_alloc (below_alloc (Below.refl _ W) _) _).trans (below_weaken' hB_.out (by omega))) (by omega) _
  · have hm2 : 1 ≤ m.nu ∧ m.nu ≤ 1152921504606846976 := of_decide_eq_true hm
    exact whole1_calls off_numbers ent_numbers ⟨hs.blk ((setRow_other w1 _ _ _ (by omega)).trans hw_.out.a) (by omega), hs.blk ((setRow_other w1 _ _ _ (by omega)).trans hw_.out.b) (by omega), hs.blk ((setRow_other w1 _ _ _ (by omega)).trans hw_.out.c) (by omega)⟩ m m.nu rfl (by omega) hm2.2 (by decide) hp hl
set_option maxRecDepth 100000 in
theorem ls_seqs : LaySem 95 (fun m _ => decide (0 ≤ m.sq ∧ m.sq ≤ 1152921504606846976)) (fun m _ => ubs m.sq) := by
  refine ⟨fun args w => by kernel_rfl, fun W => ?_⟩
  have hu := Tryz.underlying116
  go_enter Tryz.func95, Tryz.ntmps95
  go_wp2_with (first | (go_at_call 157; refine (whole_calls _ _ _ _).mono ?_; rintro e w1 ⟨a, b, c, rfl, hw, ha, hb, hc, hB⟩; (have hx := Aside0.mk ((hB.block (W.heap.size + 1) (by simp)).trans (new2 W _ _))); (have hw_ := Aside0.mk hw); clear hw; (have hn_ := Aside0.mk (And.intro ha (And.intro hb hc))); clear ha hb hc; (have hB_ := Aside0.mk hB); clear hB; simp only [WholeV]) | ((with_reducible refine wpList_store_row rfl 116 (.tmp 2) (.tmp 3) rfl (W.heap.size + 1) #[.func (.func 259) #[] #[.pointer (some ⟨c, 0, none⟩), .pointer (some ⟨b, 0, none⟩)], .func (.func 260) #[] #[.pointer (some ⟨b, 0, none⟩), .pointer (some ⟨c, 0, none⟩)], .func (.func 261) #[] #[.pointer (some ⟨c, 0, none⟩), .pointer (some ⟨a, 0, none⟩), .pointer (some ⟨b, 0, none⟩)], .func (.func 262) #[] #[.pointer (some ⟨c, 0, none⟩)]] ?d1 ?d2 116 #[.nilFunc, .nilFunc, .nilFunc, .nilFunc] ?c1 ?c2 ?c3 ?c4 ?_); (case d1 => rfl); (case d2 => rfl); (case c1 => exact hx.out); (case c2 => exact info_field); (case c3 => rfl); (case c4 => kernel_rfl)) | go_in)
  refine bodyPost_ret (results_cell1 (P := Tryz.prog) rfl _ _ (W.heap.size + 1) 116 #[.func (.func 259) #[] #[.pointer (some ⟨c, 0, none⟩), .pointer (some ⟨b, 0, none⟩)], .func (.func 260) #[] #[.pointer (some ⟨b, 0, none⟩), .pointer (some ⟨c, 0, none⟩)], .func (.func 261) #[] #[.pointer (some ⟨c, 0, none⟩), .pointer (some ⟨a, 0, none⟩), .pointer (some ⟨b, 0, none⟩)], .func (.func 262) #[] #[.pointer (some ⟨c, 0, none⟩)]] (0, 0) _ rfl (setRow_heap w1 _ _ _ 116 (0, 0) hx.out) hu rfl (by exact info_field)) rfl ?_
  have hsz : W.heap.size + 1 < ((W.alloc (Obj.cells #[] 118)).alloc (Obj.cells #[Value.nilFunc, Value.nilFunc, Value.nilFunc, Value.nilFunc] 116)).heap.size := by simp
  obtain ⟨na, nb, nc⟩ := hn_.out
  refine ⟨_, _, _, _, _, _, _, _, rfl, ?_, ent_whole1, fun W3 hs m l base p xs hm hr hp hl => ?_⟩
  · exact below_setRow ((below_alloc (below_alloc (Below.refl _ W) _) _).trans (below_weaken' hB_.out (by omega))) (by omega) _
  · have hm2 : 0 ≤ m.sq ∧ m.sq ≤ 1152921504606846976 := of_decide_eq_true hm
    exact whole1_calls off_seqs ent_seqs ⟨hs.blk ((setRow_other w1 _ _ _ (by omega)).trans hw_.out.a) (by omega), hs.blk ((setRow_other w1 _ _ _ (by omega)).trans hw_.out.b) (by omega), hs.blk ((setRow_other w1 _ _ _ (by omega)).trans hw_.out.c) (by omega)⟩ m m.sq rfl (by omega) hm2.2 (by decide) hp hl
set_option maxRecDepth 100000 in
theorem ls_levels : LaySem 101 (fun m _ => decide (0 ≤ m.lv ∧ m.lv ≤ 3)) (fun m _ => ubs m.lv) := by
  refine ⟨fun args w => by kernel_rfl, fun W => ?_⟩
  have hu := Tryz.underlying116
  go_enter Tryz.func101, Tryz.ntmps101
  go_wp2_with (first | (go_at_call 157; refine (whole_calls _ _ _ _).mono ?_; rintro e w1 ⟨a, b, c, rfl, hw, ha, hb, hc, hB⟩; (have hx := Aside0.mk ((hB.block (W.heap.size + 1) (by simp)).trans (new2 W _ _))); (have hw_ := Aside0.mk hw); clear hw; (have hn_ := Aside0.mk (And.intro ha (And.intro hb hc))); clear ha hb hc; (have hB_ := Aside0.mk hB); clear hB; simp only [WholeV]) | ((with_reducible refine wpList_store_row rfl 116 (.tmp 2) (.tmp 3) rfl (W.heap.size + 1) #[.func (.func 259) #[] #[.pointer (some ⟨c, 0, none⟩), .pointer (some ⟨b, 0, none⟩)], .func (.func 260) #[] #[.pointer (some ⟨b, 0, none⟩), .pointer (some ⟨c, 0, none⟩)], .func (.func 261) #[] #[.pointer (some ⟨c, 0, none⟩), .pointer (some ⟨a, 0, none⟩), .pointer (some ⟨b, 0, none⟩)], .func (.func 262) #[] #[.pointer (some ⟨c, 0, none⟩)]] ?d1 ?d2 116 #[.nilFunc, .nilFunc, .nilFunc, .nilFunc] ?c1 ?c2 ?c3 ?c4 ?_); (case d1 => rfl); (case d2 => rfl); (case c1 => exact hx.out); (case c2 => exact info_field); (case c3 => rfl); (case c4 => kernel_rfl)) | go_in)
  refine bodyPost_ret (results_cell1 (P := Tryz.prog) rfl _ _ (W.heap.size + 1) 116 #[.func (.func 259) #[] #[.pointer (some ⟨c, 0, none⟩), .pointer (some ⟨b, 0, none⟩)], .func (.func 260) #[] #[.pointer (some ⟨b, 0, none⟩), .pointer (some ⟨c, 0, none⟩)], .func (.func 261) #[] #[.pointer (some ⟨c, 0, none⟩), .pointer (some ⟨a, 0, none⟩), .pointer (some ⟨b, 0, none⟩)], .func (.func 262) #[] #[.pointer (some ⟨c, 0, none⟩)]] (0, 0) _ rfl (setRow_heap w1 _ _ _ 116 (0, 0) hx.out) hu rfl (by exact info_field)) rfl ?_
  have hsz : W.heap.size + 1 < ((W.alloc (Obj.cells #[] 118)).alloc (Obj.cells #[Value.nilFunc, Value.nilFunc, Value.nilFunc, Value.nilFunc] 116)).heap.size := by simp
  obtain ⟨na, nb, nc⟩ := hn_.out
  refine ⟨_, _, _, _, _, _, _, _, rfl, ?_, ent_whole1, fun W3 hs m l base p xs hm hr hp hl => ?_⟩
  · exact below_setRow ((below_alloc (below_alloc (Below.refl _ W) _) _).trans (below_weaken' hB_.out (by omega))) (by omega) _
  · have hm2 : 0 ≤ m.lv ∧ m.lv ≤ 3 := of_decide_eq_true hm
    exact whole1_calls off_levels ent_levels ⟨hs.blk ((setRow_other w1 _ _ _ (by omega)).trans hw_.out.a) (by omega), hs.blk ((setRow_other w1 _ _ _ (by omega)).trans hw_.out.b) (by omega), hs.blk ((setRow_other w1 _ _ _ (by omega)).trans hw_.out.c) (by omega)⟩ m m.lv rfl (by omega) hm2.2 (by decide) hp hl
set_option maxRecDepth 100000 in
theorem ls_clients : LaySem 84 (fun m _ => decide (1 ≤ m.cl ∧ m.cl ≤ 16) && cli2 m) (fun m _ => ubs m.cl) := by
  refine ⟨fun args w => by kernel_rfl, fun W => ?_⟩
  have hu := Tryz.underlying116
  go_enter Tryz.func84, Tryz.ntmps84
  go_wp2_with (first | (go_at_call 157; refine (whole_calls _ _ _ _).mono ?_; rintro e w1 ⟨a, b, c, rfl, hw, ha, hb, hc, hB⟩; (have hx := Aside0.mk ((hB.block (W.heap.size + 1) (by simp)).trans (new2 W _ _))); (have hw_ := Aside0.mk hw); clear hw; (have hn_ := Aside0.mk (And.intro ha (And.intro hb hc))); clear ha hb hc; (have hB_ := Aside0.mk hB); clear hB; simp only [WholeV]) | (go_at_call 159; refine (also_calls _ _ _ _ _ _ _ _ _ _).mono ?_; rintro e w2 ⟨p, q, rfl, hp, hq, hpn, hqn, hB2⟩; (have hx2 := Aside0.mk (blk_below hx.out hB2)); (have hw2 := Aside0.mk (show WholeB w2 _ _ _ a b c from ⟨blk_below hw_.out.a hB2, blk_below hw_.out.b hB2, blk_below hw_.out.c hB2⟩)); (have hpq := Aside0.mk (And.intro hp hq)); (have hn2 := Aside0.mk (And.intro hpn hqn)); (have hB2_ := Aside0.mk hB2); clear hB2 hp hq hpn hqn) | ((with_reducible refine wpList_store_row rfl 116 (.tmp 2) (.tmp 4) rfl (W.heap.size + 1) #[.func (.func 259) #[] #[.pointer (some ⟨c, 0, none⟩), .pointer (some ⟨b, 0, none⟩)], .func (.func 260) #[] #[.pointer (some ⟨b, 0, none⟩), .pointer (some ⟨c, 0, none⟩)], .func (.func 263) #[] #[.pointer (some ⟨p, 0, none⟩), .pointer (some ⟨q, 0, none⟩)], .func (.func 262) #[] #[.pointer (some ⟨c, 0, none⟩)]] ?d1 ?d2 116 #[.nilFunc, .nilFunc, .nilFunc, .nilFunc] ?c1 ?c2 ?c3 ?c4 ?_); (case d1 => rfl); (case d2 => rfl); (case c1 => exact hx2.out); (case c2 => exact info_field); (case c3 => rfl); (case c4 => kernel_rfl)) | go_in)
  refine bodyPost_ret (results_cell1 (P := Tryz.prog) rfl _ _ (W.heap.size + 1) 116 #[.func (.func 259) #[] #[.pointer (some ⟨c, 0, none⟩), .pointer (some ⟨b, 0, none⟩)], .func (.func 260) #[] #[.pointer (some ⟨b, 0, none⟩), .pointer (some ⟨c, 0, none⟩)], .func (.func 263) #[] #[.pointer (some ⟨p, 0, none⟩), .pointer (some ⟨q, 0, none⟩)], .func (.func 262) #[] #[.pointer (some ⟨c, 0, none⟩)]] (0, 0) _ rfl (setRow_heap w2 _ _ _ 116 (0, 0) hx2.out) hu rfl (by exact info_field)) rfl ?_
  have hsz : W.heap.size + 1 < ((W.alloc (Obj.cells #[] 118)).alloc (Obj.cells #[Value.nilFunc, Value.nilFunc, Value.nilFunc, Value.nilFunc] 116)).heap.size := by simp
  obtain ⟨na, nb, nc⟩ := hn_.out
  obtain ⟨np, nq⟩ := hn2.out
  have hB_s := hB_.out.size
  have kp : (w2.setRow (W.heap.size + 1) #[.func (.func 259) #[] #[.pointer (some ⟨c, 0, none⟩), .pointer (some ⟨b, 0, none⟩)], .func (.func 260) #[] #[.pointer (some ⟨b, 0, none⟩), .pointer (some ⟨c, 0, none⟩)], .func (.func 263) #[] #[.pointer (some ⟨p, 0, none⟩), .pointer (some ⟨q, 0, none⟩)], .func (.func 262) #[] #[.pointer (some ⟨c, 0, none⟩)]]).heap[p]? = _ := (setRow_other w2 _ _ _ (by omega)).trans hpq.out.1
  have kq : (w2.setRow (W.heap.size + 1) #[.func (.func 259) #[] #[.pointer (some ⟨c, 0, none⟩), .pointer (some ⟨b, 0, none⟩)], .func (.func 260) #[] #[.pointer (some ⟨b, 0, none⟩), .pointer (some ⟨c, 0, none⟩)], .func (.func 263) #[] #[.pointer (some ⟨p, 0, none⟩), .pointer (some ⟨q, 0, none⟩)], .func (.func 262) #[] #[.pointer (some ⟨c, 0, none⟩)]]).heap[q]? = _ := (setRow_other w2 _ _ _ (by omega)).trans hpq.out.2
  have kw : WholeB (w2.setRow (W.heap.size + 1) #[.func (.func 259) #[] #[.pointer (some ⟨c, 0, none⟩), .pointer (some ⟨b, 0, none⟩)], .func (.func 260) #[] #[.pointer (some ⟨b, 0, none⟩), .pointer (some ⟨c, 0, none⟩)], .func (.func 263) #[] #[.pointer (some ⟨p, 0, none⟩), .pointer (some ⟨q, 0, none⟩)], .func (.func 262) #[] #[.pointer (some ⟨c, 0, none⟩)]]) _ _ _ a b c := ⟨(setRow_other w2 _ _ _ (by omega)).trans hw2.out.a, (setRow_other w2 _ _ _ (by omega)).trans hw2.out.b, (setRow_other w2 _ _ _ (by omega)).trans hw2.out.c⟩
  refine ⟨_, _, _, _, _, _, _, _, rfl, ?_, ent_whole1, fun W3 hs m l base p xs hm hr hp hl => ?_⟩
  · exact below_setRow (((below_alloc (below_alloc (Below.refl _ W) _) _).trans (below_weaken' hB_.out (by omega))).trans (below_weaken' hB2_.out (by omega))) (by omega) _
  · have hm1 : (decide (1 ≤ m.cl ∧ m.cl ≤ 16) && _) = true := hm
    rw [Bool.and_eq_true] at hm1
    have hm2 : 1 ≤ m.cl ∧ m.cl ≤ 16 := of_decide_eq_true hm1.1
    exact whole1_calls off_clients ent_clients ⟨hs.blk kw.a (by omega), hs.blk kw.b (by omega), hs.blk kw.c (by omega)⟩ m m.cl rfl (by omega) hm2.2 (by decide) hp hl
set_option maxRecDepth 100000 in
theorem ls_uptos : LaySem 96 (fun m _ => decide (0 ≤ m.nu ∧ m.nu ≤ 1152921504606846976) && upt2 m) (fun m _ => ubs m.nu) := by
  refine ⟨fun args w => by kernel_rfl, fun W => ?_⟩
  have hu := Tryz.underlying116
  go_enter Tryz.func96, Tryz.ntmps96
  go_wp2_with (first | (go_at_call 157; refine (whole_calls _ _ _ _).mono ?_; rintro e w1 ⟨a, b, c, rfl, hw, ha, hb, hc, hB⟩; (have hx := Aside0.mk ((hB.block (W.heap.size + 1) (by simp)).trans (new2 W _ _))); (have hw_ := Aside0.mk hw); clear hw; (have hn_ := Aside0.mk (And.intro ha (And.intro hb hc))); clear ha hb hc; (have hB_ := Aside0.mk hB); clear hB; simp only [WholeV]) | (go_at_call 159; refine (also_calls _ _ _ _ _ _ _ _ _ _).mono ?_; rintro e w2 ⟨p, q, rfl, hp, hq, hpn, hqn, hB2⟩; (have hx2 := Aside0.mk (blk_below hx.out hB2)); (have hw2 := Aside0.mk (show WholeB w2 _ _ _ a b c from ⟨blk_below hw_.out.a hB2, blk_below hw_.out.b hB2, blk_below hw_.out.c hB2⟩)); (have hpq := Aside0.mk (And.intro hp hq)); (have hn2 := Aside0.mk (And.intro hpn hqn)); (have hB2_ := Aside0.mk hB2); clear hB2 hp hq hpn hqn) | ((with_reducible refine wpList_store_row rfl 116 (.tmp 2) (.tmp 4) rfl (W.heap.size + 1) #[.func (.func 259) #[] #[.pointer (some ⟨c, 0, none⟩), .pointer (some ⟨b, 0, none⟩)], .func (.func 260) #[] #[.pointer (some ⟨b, 0, none⟩), .pointer (some ⟨c, 0, none⟩)], .func (.func 263) #[] #[.pointer (some ⟨p, 0, none⟩), .pointer (some ⟨q, 0, none⟩)], .func (.func 262) #[] #[.pointer (some ⟨c, 0, none⟩)]] ?d1 ?d2 116 #[.nilFunc, .nilFunc, .nilFunc, .nilFunc] ?c1 ?c2 ?c3 ?c4 ?_); (case d1 => rfl); (case d2 => rfl); (case c1 => exact hx2.out); (case c2 => exact info_field); (case c3 => rfl); (case c4 => kernel_rfl)) | go_in)
  refine bodyPost_ret (results_cell1 (P := Tryz.prog) rfl _ _ (W.heap.size + 1) 116 #[.func (.func 259) #[] #[.pointer (some ⟨c, 0, none⟩), .pointer (some ⟨b, 0, none⟩)], .func (.func 260) #[] #[.pointer (some ⟨b, 0, none⟩), .pointer (some ⟨c, 0, none⟩)], .func (.func 263) #[] #[.pointer (some ⟨p, 0, none⟩), .pointer (some ⟨q, 0, none⟩)], .func (.func 262) #[] #[.pointer (some ⟨c, 0, none⟩)]] (0, 0) _ rfl (setRow_heap w2 _ _ _ 116 (0, 0) hx2.out) hu rfl (by exact info_field)) rfl ?_
  have hsz : W.heap.size + 1 < ((W.alloc (Obj.cells #[] 118)).alloc (Obj.cells #[Value.nilFunc, Value.nilFunc, Value.nilFunc, Value.nilFunc] 116)).heap.size := by simp
  obtain ⟨na, nb, nc⟩ := hn_.out
  obtain ⟨np, nq⟩ := hn2.out
  have hB_s := hB_.out.size
  have kp : (w2.setRow (W.heap.size + 1) #[.func (.func 259) #[] #[.pointer (some ⟨c, 0, none⟩), .pointer (some ⟨b, 0, none⟩)], .func (.func 260) #[] #[.pointer (some ⟨b, 0, none⟩), .pointer (some ⟨c, 0, none⟩)], .func (.func 263) #[] #[.pointer (some ⟨p, 0, none⟩), .pointer (some ⟨q, 0, none⟩)], .func (.func 262) #[] #[.pointer (some ⟨c, 0, none⟩)]]).heap[p]? = _ := (setRow_other w2 _ _ _ (by omega)).trans hpq.out.1
  have kq : (w2.setRow (W.heap.size + 1) #[.func (.func 259) #[] #[.pointer (some ⟨c, 0, none⟩), .pointer (some ⟨b, 0, none⟩)], .func (.func 260) #[] #[.pointer (some ⟨b, 0, none⟩), .pointer (some ⟨c, 0, none⟩)], .func (.func 263) #[] #[.pointer (some ⟨p, 0, none⟩), .pointer (some ⟨q, 0, none⟩)], .func (.func 262) #[] #[.pointer (some ⟨c, 0, none⟩)]]).heap[q]? = _ := (setRow_other w2 _ _ _ (by omega)).trans hpq.out.2
  have kw : WholeB (w2.setRow (W.heap.size + 1) #[.func (.func 259) #[] #[.pointer (some ⟨c, 0, none⟩), .pointer (some ⟨b, 0, none⟩)], .func (.func 260) #[] #[.pointer (some ⟨b, 0, none⟩), .pointer (some ⟨c, 0, none⟩)], .func (.func 263) #[] #[.pointer (some ⟨p, 0, none⟩), .pointer (some ⟨q, 0, none⟩)], .func (.func 262) #[] #[.pointer (some ⟨c, 0, none⟩)]]) _ _ _ a b c := ⟨(setRow_other w2 _ _ _ (by omega)).trans hw2.out.a, (setRow_other w2 _ _ _ (by omega)).trans hw2.out.b, (setRow_other w2 _ _ _ (by omega)).trans hw2.out.c⟩
  refine ⟨_, _, _, _, _, _, _, _, rfl, ?_, ent_whole1, fun W3 hs m l base p xs hm hr hp hl => ?_⟩
  · exact below_setRow (((below_alloc (below_alloc (Below.refl _ W) _) _).trans (below_weaken' hB_.out (by omega))).trans (below_weaken' hB2_.out (by omega))) (by omega) _
  · have hm1 : (decide (0 ≤ m.nu ∧ m.nu ≤ 1152921504606846976) && _) = true := hm
    rw [Bool.and_eq_true] at hm1
    have hm2 : 0 ≤ m.nu ∧ m.nu ≤ 1152921504606846976 := of_decide_eq_true hm1.1
    exact whole1_calls off_uptos ent_uptos ⟨hs.blk kw.a (by omega), hs.blk kw.b (by omega), hs.blk kw.c (by omega)⟩ m m.nu rfl (by omega) hm2.2 (by decide) hp hl
set_option maxRecDepth 100000 in
theorem ls_joiners : LaySem 106 (fun m _ => decide (1 ≤ m.nu ∧ m.nu ≤ 8) && joi2 m) (fun m _ => ubs m.nu) := by
  refine ⟨fun args w => by kernel_rfl, fun W => ?_⟩
  have hu := Tryz.underlying116
  go_enter Tryz.func106, Tryz.ntmps106
  go_wp2_with (first | (go_at_call 157; refine (whole_calls _ _ _ _).mono ?_; rintro e w1 ⟨a, b, c, rfl, hw, ha, hb, hc, hB⟩; (have hx := Aside0.mk ((hB.block (W.heap.size + 1) (by simp)).trans (new2 W _ _))); (have hw_ := Aside0.mk hw); clear hw; (have hn_ := Aside0.mk (And.intro ha (And.intro hb hc))); clear ha hb hc; (have hB_ := Aside0.mk hB); clear hB; simp only [WholeV]) | (go_at_call 159; refine (also_calls _ _ _ _ _ _ _ _ _ _).mono ?_; rintro e w2 ⟨p, q, rfl, hp, hq, hpn, hqn, hB2⟩; (have hx2 := Aside0.mk (blk_below hx.out hB2)); (have hw2 := Aside0.mk (show WholeB w2 _ _ _ a b c from ⟨blk_below hw_.out.a hB2, blk_below hw_.out.b hB2, blk_below hw_.out.c hB2⟩)); (have hpq := Aside0.mk (And.intro hp hq)); (have hn2 := Aside0.mk (And.intro hpn hqn)); (have hB2_ := Aside0.mk hB2); clear hB2 hp hq hpn hqn) | ((with_reducible refine wpList_store_row rfl 116 (.tmp 2) (.tmp 4) rfl (W.heap.size + 1) #[.func (.func 259) #[] #[.pointer (some ⟨c, 0, none⟩), .pointer (some ⟨b, 0, none⟩)], .func (.func 260) #[] #[.pointer (some ⟨b, 0, none⟩), .pointer (some ⟨c, 0, none⟩)], .func (.func 263) #[] #[.pointer (some ⟨p, 0, none⟩), .pointer (some ⟨q, 0, none⟩)], .func (.func 262) #[] #[.pointer (some ⟨c, 0, none⟩)]] ?d1 ?d2 116 #[.nilFunc, .nilFunc, .nilFunc, .nilFunc] ?c1 ?c2 ?c3 ?c4 ?_); (case d1 => rfl); (case d2 => rfl); (case c1 => exact hx2.out); (case c2 => exact info_field); (case c3 => rfl); (case c4 => kernel_rfl)) | go_in)
  refine bodyPost_ret (results_cell1 (P := Tryz.prog) rfl _ _ (W.heap.size + 1) 116 #[.func (.func 259) #[] #[.pointer (some ⟨c, 0, none⟩), .pointer (some ⟨b, 0, none⟩)], .func (.func 260) #[] #[.pointer (some ⟨b, 0, none⟩), .pointer (some ⟨c, 0, none⟩)], .func (.func 263) #[] #[.pointer (some ⟨p, 0, none⟩), .pointer (some ⟨q, 0, none⟩)], .func (.func 262) #[] #[.pointer (some ⟨c, 0, none⟩)]] (0, 0) _ rfl (setRow_heap w2 _ _ _ 116 (0, 0) hx2.out) hu rfl (by exact info_field)) rfl ?_
  have hsz : W.heap.size + 1 < ((W.alloc (Obj.cells #[] 118)).alloc (Obj.cells #[Value.nilFunc, Value.nilFunc, Value.nilFunc, Value.nilFunc] 116)).heap.size := by simp
  obtain ⟨na, nb, nc⟩ := hn_.out
  obtain ⟨np, nq⟩ := hn2.out
  have hB_s := hB_.out.size
  have kp : (w2.setRow (W.heap.size + 1) #[.func (.func 259) #[] #[.pointer (some ⟨c, 0, none⟩), .pointer (some ⟨b, 0, none⟩)], .func (.func 260) #[] #[.pointer (some ⟨b, 0, none⟩), .pointer (some ⟨c, 0, none⟩)], .func (.func 263) #[] #[.pointer (some ⟨p, 0, none⟩), .pointer (some ⟨q, 0, none⟩)], .func (.func 262) #[] #[.pointer (some ⟨c, 0, none⟩)]]).heap[p]? = _ := (setRow_other w2 _ _ _ (by omega)).trans hpq.out.1
  have kq : (w2.setRow (W.heap.size + 1) #[.func (.func 259) #[] #[.pointer (some ⟨c, 0, none⟩), .pointer (some ⟨b, 0, none⟩)], .func (.func 260) #[] #[.pointer (some ⟨b, 0, none⟩), .pointer (some ⟨c, 0, none⟩)], .func (.func 263) #[] #[.pointer (some ⟨p, 0, none⟩), .pointer (some ⟨q, 0, none⟩)], .func (.func 262) #[] #[.pointer (some ⟨c, 0, none⟩)]]).heap[q]? = _ := (setRow_other w2 _ _ _ (by omega)).trans hpq.out.2
  have kw : WholeB (w2.setRow (W.heap.size + 1) #[.func (.func 259) #[] #[.pointer (some ⟨c, 0, none⟩), .pointer (some ⟨b, 0, none⟩)], .func (.func 260) #[] #[.pointer (some ⟨b, 0, none⟩), .pointer (some ⟨c, 0, none⟩)], .func (.func 263) #[] #[.pointer (some ⟨p, 0, none⟩), .pointer (some ⟨q, 0, none⟩)], .func (.func 262) #[] #[.pointer (some ⟨c, 0, none⟩)]]) _ _ _ a b c := ⟨(setRow_other w2 _ _ _ (by omega)).trans hw2.out.a, (setRow_other w2 _ _ _ (by omega)).trans hw2.out.b, (setRow_other w2 _ _ _ (by omega)).trans hw2.out.c⟩
  refine ⟨_, _, _, _, _, _, _, _, rfl, ?_, ent_whole1, fun W3 hs m l base p xs hm hr hp hl => ?_⟩
  · exact below_setRow (((below_alloc (below_alloc (Below.refl _ W) _) _).trans (below_weaken' hB_.out (by omega))).trans (below_weaken' hB2_.out (by omega))) (by omega) _
  · have hm1 : (decide (1 ≤ m.nu ∧ m.nu ≤ 8) && _) = true := hm
    rw [Bool.and_eq_true] at hm1
    have hm2 : 1 ≤ m.nu ∧ m.nu ≤ 8 := of_decide_eq_true hm1.1
    exact whole1_calls off_joiners ent_joiners ⟨hs.blk kw.a (by omega), hs.blk kw.b (by omega), hs.blk kw.c (by omega)⟩ m m.nu rfl (by omega) hm2.2 (by decide) hp hl
set_option maxRecDepth 100000 in
theorem ls_attempts0 : LaySem 93 (fun m _ => decide (0 ≤ m.att ∧ m.att ≤ 1152921504606846976) && att2 m) (fun m _ => ubs m.att) := by
  refine ⟨fun args w => by kernel_rfl, fun W => ?_⟩
  have hu := Tryz.underlying116
  go_enter Tryz.func93, Tryz.ntmps93
  go_wp2_with (first | (go_at_call 157; refine (whole_calls _ _ _ _).mono ?_; rintro e w1 ⟨a, b, c, rfl, hw, ha, hb, hc, hB⟩; (have hx := Aside0.mk ((hB.block (W.heap.size + 1) (by simp)).trans (new2 W _ _))); (have hw_ := Aside0.mk hw); clear hw; (have hn_ := Aside0.mk (And.intro ha (And.intro hb hc))); clear ha hb hc; (have hB_ := Aside0.mk hB); clear hB; simp only [WholeV]) | (go_at_call 159; refine (also_calls _ _ _ _ _ _ _ _ _ _).mono ?_; rintro e w2 ⟨p, q, rfl, hp, hq, hpn, hqn, hB2⟩; (have hx2 := Aside0.mk (blk_below hx.out hB2)); (have hw2 := Aside0.mk (show WholeB w2 _ _ _ a b c from ⟨blk_below hw_.out.a hB2, blk_below hw_.out.b hB2, blk_below hw_.out.c hB2⟩)); (have hpq := Aside0.mk (And.intro hp hq)); (have hn2 := Aside0.mk (And.intro hpn hqn)); (have hB2_ := Aside0.mk hB2); clear hB2 hp hq hpn hqn) | ((with_reducible refine wpList_store_row rfl 116 (.tmp 2) (.tmp 4) rfl (W.heap.size + 1) #[.func (.func 259) #[] #[.pointer (some ⟨c, 0, none⟩), .pointer (some ⟨b, 0, none⟩)], .func (.func 260) #[] #[.pointer (some ⟨b, 0, none⟩), .pointer (some ⟨c, 0, none⟩)], .func (.func 263) #[] #[.pointer (some ⟨p, 0, none⟩), .pointer (some ⟨q, 0, none⟩)], .func (.func 262) #[] #[.pointer (some ⟨c, 0, none⟩)]] ?d1 ?d2 116 #[.nilFunc, .nilFunc, .nilFunc, .nilFunc] ?c1 ?c2 ?c3 ?c4 ?_); (case d1 => rfl); (case d2 => rfl); (case c1 => exact hx2.out); (case c2 => exact info_field); (case c3 => rfl); (case c4 => kernel_rfl)) | go_in)
  refine bodyPost_ret (results_cell1 (P := Tryz.prog) rfl _ _ (W.heap.size + 1) 116 #[.func (.func 259) #[] #[.pointer (some ⟨c, 0, none⟩), .pointer (some ⟨b, 0, none⟩)], .func (.func 260) #[] #[.pointer (some ⟨b, 0, none⟩), .pointer (some ⟨c, 0, none⟩)], .func (.func 263) #[] #[.pointer (some ⟨p, 0, none⟩), .pointer (some ⟨q, 0, none⟩)], .func (.func 262) #[] #[.pointer (some ⟨c, 0, none⟩)]] (0, 0) _ rfl (setRow_heap w2 _ _ _ 116 (0, 0) hx2.out) hu rfl (by exact info_field)) rfl ?_
  have hsz : W.heap.size + 1 < ((W.alloc (Obj.cells #[] 118)).alloc (Obj.cells #[Value.nilFunc, Value.nilFunc, Value.nilFunc, Value.nilFunc] 116)).heap.size := by simp
  obtain ⟨na, nb, nc⟩ := hn_.out
  obtain ⟨np, nq⟩ := hn2.out
  have hB_s := hB_.out.size
  have kp : (w2.setRow (W.heap.size + 1) #[.func (.func 259) #[] #[.pointer (some ⟨c, 0, none⟩), .pointer (some ⟨b, 0, none⟩)], .func (.func 260) #[] #[.pointer (some ⟨b, 0, none⟩), .pointer (some ⟨c, 0, none⟩)], .func (.func 263) #[] #[.pointer (some ⟨p, 0, none⟩), .pointer (some ⟨q, 0, none⟩)], .func (.func 262) #[] #[.pointer (some ⟨c, 0, none⟩)]]).heap[p]? = _ := (setRow_other w2 _ _ _ (by omega)).trans hpq.out.1
  have kq : (w2.setRow (W.heap.size + 1) #[.func (.func 259) #[] #[.pointer (some ⟨c, 0, none⟩), .pointer (some ⟨b, 0, none⟩)], .func (.func 260) #[] #[.pointer (some ⟨b, 0, none⟩), .pointer (some ⟨c, 0, none⟩)], .func (.func 263) #[] #[.pointer (some ⟨p, 0, none⟩), .pointer (some ⟨q, 0, none⟩)], .func (.func 262) #[] #[.pointer (some ⟨c, 0, none⟩)]]).heap[q]? = _ := (setRow_other w2 _ _ _ (by omega)).trans hpq.out.2
  have kw : WholeB (w2.setRow (W.heap.size + 1) #[.func (.func 259) #[] #[.pointer (some ⟨c, 0, none⟩), .pointer (some ⟨b, 0, none⟩)], .func (.func 260) #[] #[.pointer (some ⟨b, 0, none⟩), .pointer (some ⟨c, 0, none⟩)], .func (.func 263) #[] #[.pointer (some ⟨p, 0, none⟩), .pointer (some ⟨q, 0, none⟩)], .func (.func 262) #[] #[.pointer (some ⟨c, 0, none⟩)]]) _ _ _ a b c := ⟨(setRow_other w2 _ _ _ (by omega)).trans hw2.out.a, (setRow_other w2 _ _ _ (by omega)).trans hw2.out.b, (setRow_other w2 _ _ _ (by omega)).trans hw2.out.c⟩
  refine ⟨_, _, _, _, _, _, _, _, rfl, ?_, ent_whole1, fun W3 hs m l base p xs hm hr hp hl => ?_⟩
  · exact below_setRow (((below_alloc (below_alloc (Below.refl _ W) _) _).trans (below_weaken' hB_.out (by omega))).trans (below_weaken' hB2_.out (by omega))) (by omega) _
  · have hm1 : (decide (0 ≤ m.att ∧ m.att ≤ 1152921504606846976) && _) = true := hm
    rw [Bool.and_eq_true] at hm1
    have hm2 : 0 ≤ m.att ∧ m.att ≤ 1152921504606846976 := of_decide_eq_true hm1.1
    exact whole1_calls off_attempts0 ent_attempts0 ⟨hs.blk kw.a (by omega), hs.blk kw.b (by omega), hs.blk kw.c (by omega)⟩ m m.att rfl (by omega) hm2.2 (by decide) hp hl
end Msg

end Go.Proofs.YtepkaaplhcbkbaaGreat.G
