import Derived.Test.YtepkaaplhcbkbaaGreatT1
import Derived.Deep.Upon
import Derived.Deep.QuietTactic
import Derived.BigQuiet
import Derived.Deep.RegionHeld3
import Derived.Deep.DeepCutAuto
import Derived.Deep.CutBlock
import Derived.Laws.EntriesVeiled
import Derived.StillTailTactics
import Derived.Laws.Tables
import Derived.Laws.CopyOwn
import Derived.Test.YtepkaaplhcbkbaaGreatBlocks
import Derived.Laws.CopyOwn
import Derived.Laws.Tables
import Derived.Outline
namespace Go.Proofs.YtepkaaplhcbkbaaGreat.G
open Go.RowKit Go.Proofs.YtepkaaplhcbkbaaGreatW.PrintWords Go.Proofs.YtepkaaplhcbkbaaGreatW.PrintLast Go.Proofs.YtepkaaplhcbkbaaGreatW.PrintMore
set_option linter.unusedVariables false
set_option linter.unusedSimpArgs false
namespace Msg
/-- What a message's lists hold. -/
structure Ls where
  ch : List Int
  bk : List Int
structure Rd (W : World) (m : Mg) (l : Ls) : Prop where
  ch : Kd.C (Kd.int .i64) W m.chA l.ch.length l.ch
  chn : m.chN = l.ch.length
  chc : m.chN ≤ m.chC
  bk : Kd.C (Kd.int .i64) W m.bkA l.bk.length l.bk
  bkn : m.bkN = l.bk.length
  bkc : m.bkN ≤ m.bkC
theorem Rd.below {W W' : World} {m : Mg} {l : Ls} (h : Rd W m l) (hB : Below W.heap.size W W') : Rd W' m l := ⟨Kd.C_below h.ch hB, h.chn, h.chc, Kd.C_below h.bk hB, h.bkn, h.bkc⟩
/-- The blocks from lo on that w has lie as they lay. -/
def Same (lo : Nat) (w w3 : World) : Prop := ∀ k, lo ≤ k → k < w.heap.size → w3.heap[k]? = w.heap[k]?
theorem Same.blk {lo k : Nat} {w w3 : World} {o : Obj} (h : Same lo w w3) (hk : w.heap[k]? = some o) (hl : lo ≤ k) : w3.heap[k]? = some o := (h k hl (blk_lt hk)).trans hk
def MayAt (f : FuncId) (c : Array Value) (W : World) (may : Mg → Ls → Bool) : Prop := ∀ m l, Rd W m l → Calls Tryz.prog f (#[.agg m.cells] ++ c) W fun e w => e = .returned (.bool (may m l)) ∧ Below W.heap.size W w
def PartAt (f : FuncId) (c : Array Value) (W : World) (part : Mg → Mg → Mg) : Prop := ∀ m b to_, W.heap[to_]? = some (.cells b.cells 49 (0, 0)) → Calls Tryz.prog f (#[.agg m.cells, .pointer (some ⟨to_, 0, none⟩)] ++ c) W fun e w => e = .returned (.tuple #[]) ∧ Put W w to_ (part m b).cells
/-- What a field's function makes: its closures, and what these do. -/
structure FieldV (W w : World) (f2 : FuncId) (c2 : Array Value) (f3 : FuncId) (c3 : Array Value) (may : Mg → Ls → Bool) (part : Mg → Mg → Mg) : Prop where
  e2 : Enters f2
  e3 : Enters f3
  bel : Below W.heap.size W w
  may : ∀ W3, Same W.heap.size w W3 → MayAt f2 c2 W3 may
  part : ∀ W3, Same W.heap.size w W3 → PartAt f3 c3 W3 part
structure FieldSem (f : FuncId) (may : Mg → Ls → Bool) (part : Mg → Mg → Mg) : Prop where
  ent : Enters f
  run : ∀ W, Calls Tryz.prog f #[.agg #[]] W fun e w => ∃ f0 c0 f1 c1 f2 c2 f3 c3, e = .returned (.agg #[.func (.func f0) #[] c0, .func (.func f1) #[] c1, .func (.func f2) #[] c2, .func (.func f3) #[] c3]) ∧ FieldV W w f2 c2 f3 c3 may part
theorem ent_whole3 : Enters 261 := fun args w => by kernel_rfl
theorem ent_whole4 : Enters 262 := fun args w => by kernel_rfl
theorem whole_field {f : FuncId} {i : Nat} (hf : Off f i) (he : Enters f) {W w : World} {lo hi : Int} {a b c : Nat} (hw : WholeB w f lo hi a b c) (ha : W.heap.size ≤ a) (hb : W.heap.size ≤ b) (hc : W.heap.size ≤ c) (hB : Below W.heap.size W w)
    (g : Mg → Int) (part : Mg → Mg → Mg) (hg : ∀ m : Mg, m.cells[i]? = some (.int .i64 (g m))) (hp : ∀ m b : Mg, b.cells.setIfInBounds i (.int .i64 (g m)) = (part m b).cells) :
    FieldV W w 261 #[.pointer (some ⟨c, 0, none⟩), .pointer (some ⟨a, 0, none⟩), .pointer (some ⟨b, 0, none⟩)] 262 #[.pointer (some ⟨c, 0, none⟩)] (fun m _ => decide (lo ≤ g m ∧ g m ≤ hi)) part := by
  refine ⟨ent_whole3, ent_whole4, hB, fun W3 hs m l _ => ?_, fun W3 hs m b' to_ ht => ?_⟩
  · exact whole3_calls hf he ⟨hs.blk hw.a ha, hs.blk hw.b hb, hs.blk hw.c hc⟩ m (g m) (hg m)
  · rw [← hp m b']
    exact whole4_calls hf he (hs.blk hw.c hc) m (g m) (hg m) to_ b'.cells (.int .i64 (g b')) ht (hg b')
theorem results_cell1 {P : Program} {fn : Func} {p : Tmp} {ty : TypeId} (h : fn.results = #[.cell p ty]) (tmps : Array Value) (w : World) (g : Nat) (t : TypeId) (cs : Array Value) (fr : Nat × Nat) (d : TypeDesc)
    (hp : tmps.getD p undef = .pointer (some ⟨g, 0, none⟩)) (hg : w.heap[g]? = some (.cells cs t fr))
    (hu : P.underlying ty = some d) (hd : (match d with | .struct _ | .array _ _ => true | _ => false) = true) (hi : (P.info? ty).map (·.size) = some cs.size) :
    (results fn tmps).run P w = .ok (.agg cs) w := by
  have hp' : tmps[p]?.getD undef = .pointer (some ⟨g, 0, none⟩) := by simpa using hp
  simp [results, h, hp', asAddr, run_loadVar_row w g t ty cs fr d hg hu hd hi]
theorem info_field : (Tryz.prog.info? 116).map (·.size) = some 4 := by kernel_rfl
theorem same_set {lo g : Nat} {w w3 : World} {cs : Array Value} (h : Same lo (w.setRow g cs) w3) (hg : g < lo) : Same lo w w3 := fun k hk hs => by
  have h1 : k < (w.setRow g cs).heap.size := by simpa [World.setRow] using hs
  rw [h k hk h1, setRow_other w g k cs (by omega)]
set_option maxRecDepth 100000 in
theorem fs_epochs : FieldSem 87 (fun m _ => decide (1 ≤ m.ep ∧ m.ep ≤ 1099511627776)) (fun m b => { b with ep := m.ep }) := by
  refine ⟨fun args w => by kernel_rfl, fun W => ?_⟩
  have hu := Tryz.underlying116
  go_enter Tryz.func87, Tryz.ntmps87
  go_wp2_with (first | (go_at_call 157; refine (whole_calls _ _ _ _).mono ?_; rintro e w1 ⟨a, b, c, rfl, hw, ha, hb, hc, hB⟩; (have hx := Aside0.mk ((hB.block (W.heap.size + 1) (by simp)).trans (new2 W _ _))); (have hw_ := Aside0.mk hw); clear hw; (have hn_ := Aside0.mk (And.intro ha (And.intro hb hc))); clear ha hb hc; (have hB_ := Aside0.mk hB); clear hB; simp only [WholeV]) | ((with_reducible refine wpList_store_row rfl 116 (.tmp 2) (.tmp 3) rfl (W.heap.size + 1) #[.func (.func 259) #[] #[.pointer (some ⟨c, 0, none⟩), .pointer (some ⟨b, 0, none⟩)], .func (.func 260) #[] #[.pointer (some ⟨b, 0, none⟩), .pointer (some ⟨c, 0, none⟩)], .func (.func 261) #[] #[.pointer (some ⟨c, 0, none⟩), .pointer (some ⟨a, 0, none⟩), .pointer (some ⟨b, 0, none⟩)], .func (.func 262) #[] #[.pointer (some ⟨c, 0, none⟩)]] ?d1 ?d2 116 #[.nilFunc, .nilFunc, .nilFunc, .nilFunc] ?c1 ?c2 ?c3 ?c4 ?_); (case d1 => rfl); (case d2 => rfl); (case c1 => exact hx.out); (case c2 => exact info_field); (case c3 => rfl); (case c4 => kernel_rfl)) | go_in)
  refine bodyPost_ret (results_cell1 (P := Tryz.prog) rfl _ _ (W.heap.size + 1) 116 #[.func (.func 259) #[] #[.pointer (some ⟨c, 0, none⟩), .pointer (some ⟨b, 0, none⟩)], .func (.func 260) #[] #[.pointer (some ⟨b, 0, none⟩), .pointer (some ⟨c, 0, none⟩)], .func (.func 261) #[] #[.pointer (some ⟨c, 0, none⟩), .pointer (some ⟨a, 0, none⟩), .pointer (some ⟨b, 0, none⟩)], .func (.func 262) #[] #[.pointer (some ⟨c, 0, none⟩)]] (0, 0) _ rfl (setRow_heap w1 _ _ _ 116 (0, 0) hx.out) hu rfl (by exact info_field)) rfl ?_
  have hsz : W.heap.size + 1 < ((W.alloc (Obj.cells #[] 118)).alloc (Obj.cells #[Value.nilFunc, Value.nilFunc, Value.nilFunc, Value.nilFunc] 116)).heap.size := by simp
  obtain ⟨na, nb, nc⟩ := hn_.out
  refine ⟨_, _, _, _, _, _, _, _, rfl, whole_field off_epochs ent_epochs ⟨?_, ?_, ?_⟩ ?_ ?_ ?_ ?_ (fun m => m.ep) _ (fun m => rfl) (fun m b => rfl)⟩
  · exact (setRow_other w1 _ _ _ (by omega)).trans hw_.out.a
  · exact (setRow_other w1 _ _ _ (by omega)).trans hw_.out.b
  · exact (setRow_other w1 _ _ _ (by omega)).trans hw_.out.c
  · omega
  · omega
  · omega
  · exact below_setRow ((below_alloc (below_alloc (Below.refl _ W) _) _).trans (below_weaken' hB_.out (by omega))) (by omega) _
set_option maxRecDepth 100000 in
theorem fs_sinces : FieldSem 92 (fun m _ => decide (0 ≤ m.ep ∧ m.ep ≤ 1099511627776)) (fun m b => { b with ep := m.ep }) := by
  refine ⟨fun args w => by kernel_rfl, fun W => ?_⟩
  have hu := Tryz.underlying116
  go_enter Tryz.func92, Tryz.ntmps92
  go_wp2_with (first | (go_at_call 157; refine (whole_calls _ _ _ _).mono ?_; rintro e w1 ⟨a, b, c, rfl, hw, ha, hb, hc, hB⟩; (have hx := Aside0.mk ((hB.block (W.heap.size + 1) (by simp)).trans (new2 W _ _))); (have hw_ := Aside0.mk hw); clear hw; (have hn_ := Aside0.mk (And.intro ha (And.intro hb hc))); clear ha hb hc; (have hB_ := Aside0.mk hB); clear hB; simp only [WholeV]) | ((with_reducible refine wpList_store_row rfl 116 (.tmp 2) (.tmp 3) rfl (W.heap.size + 1) #[.func (.func 259) #[] #[.pointer (some ⟨c, 0, none⟩), .pointer (some ⟨b, 0, none⟩)], .func (.func 260) #[] #[.pointer (some ⟨b, 0, none⟩), .pointer (some ⟨c, 0, none⟩)], .func (.func 261) #[] #[.pointer (some ⟨c, 0, none⟩), .pointer (some ⟨a, 0, none⟩), .pointer (some ⟨b, 0, none⟩)], .func (.func 262) #[] #[.pointer (some ⟨c, 0, none⟩)]] ?d1 ?d2 116 #[.nilFunc, .nilFunc, .nilFunc, .nilFunc] ?c1 ?c2 ?c3 ?c4 ?_); (case d1 => rfl); (case d2 => rfl); (case c1 => exact hx.out); (case c2 => exact info_field); (case c3 => rfl); (case c4 => kernel_rfl)) | go_in)
  refine bodyPost_ret (results_cell1 (P := Tryz.prog) rfl _ _ (W.heap.size + 1) 116 #[.func (.func 259) #[] #[.pointer (some ⟨c, 0, none⟩), .pointer (some ⟨b, 0, none⟩)], .func (.func 260) #[] #[.pointer (some ⟨b, 0, none⟩), .pointer (some ⟨c, 0, none⟩)], .func (.func 261) #[] #[.pointer (some ⟨c, 0, none⟩), .pointer (some ⟨a, 0, none⟩), .pointer (some ⟨b, 0, none⟩)], .func (.func 262) #[] #[.pointer (some ⟨c, 0, none⟩)]] (0, 0) _ rfl (setRow_heap w1 _ _ _ 116 (0, 0) hx.out) hu rfl (by exact info_field)) rfl ?_
  have hsz : W.heap.size + 1 < ((W.alloc (Obj.cells #[] 118)).alloc (Obj.cells #[Value.nilFunc, Value.nilFunc, Value.nilFunc, Value.nilFunc] 116)).heap.size := by simp
  obtain ⟨na, nb, nc⟩ := hn_.out
  refine ⟨_, _, _, _, _, _, _, _, rfl, whole_field off_sinces ent_sinces ⟨?_, ?_, ?_⟩ ?_ ?_ ?_ ?_ (fun m => m.ep) _ (fun m => rfl) (fun m b => rfl)⟩
  · exact (setRow_other w1 _ _ _ (by omega)).trans hw_.out.a
  · exact (setRow_other w1 _ _ _ (by omega)).trans hw_.out.b
  · exact (setRow_other w1 _ _ _ (by omega)).trans hw_.out.c
  · omega
  · omega
  · omega
  · exact below_setRow ((below_alloc (below_alloc (Below.refl _ W) _) _).trans (below_weaken' hB_.out (by omega))) (by omega) _
set_option maxRecDepth 100000 in
theorem fs_attempts : FieldSem 97 (fun m _ => decide (1 ≤ m.att ∧ m.att ≤ 1152921504606846976)) (fun m b => { b with att := m.att }) := by
  refine ⟨fun args w => by kernel_rfl, fun W => ?_⟩
  have hu := Tryz.underlying116
  go_enter Tryz.func97, Tryz.ntmps97
  go_wp2_with (first | (go_at_call 157; refine (whole_calls _ _ _ _).mono ?_; rintro e w1 ⟨a, b, c, rfl, hw, ha, hb, hc, hB⟩; (have hx := Aside0.mk ((hB.block (W.heap.size + 1) (by simp)).trans (new2 W _ _))); (have hw_ := Aside0.mk hw); clear hw; (have hn_ := Aside0.mk (And.intro ha (And.intro hb hc))); clear ha hb hc; (have hB_ := Aside0.mk hB); clear hB; simp only [WholeV]) | ((with_reducible refine wpList_store_row rfl 116 (.tmp 2) (.tmp 3) rfl (W.heap.size + 1) #[.func (.func 259) #[] #[.pointer (some ⟨c, 0, none⟩), .pointer (some ⟨b, 0, none⟩)], .func (.func 260) #[] #[.pointer (some ⟨b, 0, none⟩), .pointer (some ⟨c, 0, none⟩)], .func (.func 261) #[] #[.pointer (some ⟨c, 0, none⟩), .pointer (some ⟨a, 0, none⟩), .pointer (some ⟨b, 0, none⟩)], .func (.func 262) #[] #[.pointer (some ⟨c, 0, none⟩)]] ?d1 ?d2 116 #[.nilFunc, .nilFunc, .nilFunc, .nilFunc] ?c1 ?c2 ?c3 ?c4 ?_); (case d1 => rfl); (case d2 => rfl); (case c1 => exact hx.out); (case c2 => exact info_field); (case c3 => rfl); (case c4 => kernel_rfl)) | go_in)
  refine bodyPost_ret (results_cell1 (P := Tryz.prog) rfl _ _ (W.heap.size + 1) 116 #[.func (.func 259) #[] #[.pointer (some ⟨c, 0, none⟩), .pointer (some ⟨b, 0, none⟩)], .func (.func 260) #[] #[.pointer (some ⟨b, 0, none⟩), .pointer (some ⟨c, 0, none⟩)], .func (.func 261) #[] #[.pointer (some ⟨c, 0, none⟩), .pointer (some ⟨a, 0, none⟩), .pointer (some ⟨b, 0, none⟩)], .func (.func 262) #[] #[.pointer (some ⟨c, 0, none⟩)]] (0, 0) _ rfl (setRow_heap w1 _ _ _ 116 (0, 0) hx.out) hu rfl (by exact info_field)) rfl ?_
  have hsz : W.heap.size + 1 < ((W.alloc (Obj.cells #[] 118)).alloc (Obj.cells #[Value.nilFunc, Value.nilFunc, Value.nilFunc, Value.nilFunc] 116)).heap.size := by simp
  obtain ⟨na, nb, nc⟩ := hn_.out
  refine ⟨_, _, _, _, _, _, _, _, rfl, whole_field off_attempts ent_attempts ⟨?_, ?_, ?_⟩ ?_ ?_ ?_ ?_ (fun m => m.att) _ (fun m => rfl) (fun m b => rfl)⟩
  · exact (setRow_other w1 _ _ _ (by omega)).trans hw_.out.a
  · exact (setRow_other w1 _ _ _ (by omega)).trans hw_.out.b
  · exact (setRow_other w1 _ _ _ (by omega)).trans hw_.out.c
  · omega
  · omega
  · omega
  · exact below_setRow ((below_alloc (below_alloc (Below.refl _ W) _) _).trans (below_weaken' hB_.out (by omega))) (by omega) _
set_option maxRecDepth 100000 in
theorem fs_numbers : FieldSem 85 (fun m _ => decide (1 ≤ m.nu ∧ m.nu ≤ 1152921504606846976)) (fun m b => { b with nu := m.nu }) := by
  refine ⟨fun args w => by kernel_rfl, fun W => ?_⟩
  have hu := Tryz.underlying116
  go_enter Tryz.func85, Tryz.ntmps85
  go_wp2_with (first | (go_at_call 157; refine (whole_calls _ _ _ _).mono ?_; rintro e w1 ⟨a, b, c, rfl, hw, ha, hb, hc, hB⟩; (have hx := Aside0.mk ((hB.block (W.heap.size + 1) (by simp)).trans (new2 W _ _))); (have hw_ := Aside0.mk hw); clear hw; (have hn_ := Aside0.mk (And.intro ha (And.intro hb hc))); clear ha hb hc; (have hB_ := Aside0.mk hB); clear hB; simp only [WholeV]) | ((with_reducible refine wpList_store_row rfl 116 (.tmp 2) (.tmp 3) rfl (W.heap.size + 1) #[.func (.func 259) #[] #[.pointer (some ⟨c, 0, none⟩), .pointer (some ⟨b, 0, none⟩)], .func (.func 260) #[] #[.pointer (some ⟨b, 0, none⟩), .pointer (some ⟨c, 0, none⟩)], .func (.func 261) #[] #[.pointer (some ⟨c, 0, none⟩), .pointer (some ⟨a, 0, none⟩), .pointer (some ⟨b, 0, none⟩)], .func (.func 262) #[] #[.pointer (some ⟨c, 0, none⟩)]] ?d1 ?d2 116 #[.nilFunc, .nilFunc, .nilFunc, .nilFunc] ?c1 ?c2 ?c3 ?c4 ?_); (case d1 => rfl); (case d2 => rfl); (case c1 => exact hx.out); (case c2 => exact info_field); (case c3 => rfl); (case c4 => kernel_rfl)) | go_in)
  refine bodyPost_ret (results_cell1 (P := Tryz.prog) rfl _ _ (W.heap.size + 1) 116 #[.func (.func 259) #[] #[.pointer (some ⟨c, 0, none⟩), .pointer (some ⟨b, 0, none⟩)], .func (.func 260) #[] #[.pointer (some ⟨b, 0, none⟩), .pointer (some ⟨c, 0, none⟩)], .func (.func 261) #[] #[.pointer (some ⟨c, 0, none⟩), .pointer (some ⟨a, 0, none⟩), .pointer (some ⟨b, 0, none⟩)], .func (.func 262) #[] #[.pointer (some ⟨c, 0, none⟩)]] (0, 0) _ rfl (setRow_heap w1 _ _ _ 116 (0, 0) hx.out) hu rfl (by exact info_field)) rfl ?_
  have hsz : W.heap.size + 1 < ((W.alloc (Obj.cells #[] 118)).alloc (Obj.cells #[Value.nilFunc, Value.nilFunc, Value.nilFunc, Value.nilFunc] 116)).heap.size := by simp
  obtain ⟨na, nb, nc⟩ := hn_.out
  refine ⟨_, _, _, _, _, _, _, _, rfl, whole_field off_numbers ent_numbers ⟨?_, ?_, ?_⟩ ?_ ?_ ?_ ?_ (fun m => m.nu) _ (fun m => rfl) (fun m b => rfl)⟩
  · exact (setRow_other w1 _ _ _ (by omega)).trans hw_.out.a
  · exact (setRow_other w1 _ _ _ (by omega)).trans hw_.out.b
  · exact (setRow_other w1 _ _ _ (by omega)).trans hw_.out.c
  · omega
  · omega
  · omega
  · exact below_setRow ((below_alloc (below_alloc (Below.refl _ W) _) _).trans (below_weaken' hB_.out (by omega))) (by omega) _
set_option maxRecDepth 100000 in
theorem fs_seqs : FieldSem 95 (fun m _ => decide (0 ≤ m.sq ∧ m.sq ≤ 1152921504606846976)) (fun m b => { b with sq := m.sq }) := by
  refine ⟨fun args w => by kernel_rfl, fun W => ?_⟩
  have hu := Tryz.underlying116
  go_enter Tryz.func95, Tryz.ntmps95
  go_wp2_with (first | (go_at_call 157; refine (whole_calls _ _ _ _).mono ?_; rintro e w1 ⟨a, b, c, rfl, hw, ha, hb, hc, hB⟩; (have hx := Aside0.mk ((hB.block (W.heap.size + 1) (by simp)).trans (new2 W _ _))); (have hw_ := Aside0.mk hw); clear hw; (have hn_ := Aside0.mk (And.intro ha (And.intro hb hc))); clear ha hb hc; (have hB_ := Aside0.mk hB); clear hB; simp only [WholeV]) | ((with_reducible refine wpList_store_row rfl 116 (.tmp 2) (.tmp 3) rfl (W.heap.size + 1) #[.func (.func 259) #[] #[.pointer (some ⟨c, 0, none⟩), .pointer (some ⟨b, 0, none⟩)], .func (.func 260) #[] #[.pointer (some ⟨b, 0, none⟩), .pointer (some ⟨c, 0, none⟩)], .func (.func 261) #[] #[.pointer (some ⟨c, 0, none⟩), .pointer (some ⟨a, 0, none⟩), .pointer (some ⟨b, 0, none⟩)], .func (.func 262) #[] #[.pointer (some ⟨c, 0, none⟩)]] ?d1 ?d2 116 #[.nilFunc, .nilFunc, .nilFunc, .nilFunc] ?c1 ?c2 ?c3 ?c4 ?_); (case d1 => rfl); (case d2 => rfl); (case c1 => exact hx.out); (case c2 => exact info_field); (case c3 => rfl); (case c4 => kernel_rfl)) | go_in)
  refine bodyPost_ret (results_cell1 (P := Tryz.prog) rfl _ _ (W.heap.size + 1) 116 #[.func (.func 259) #[] #[.pointer (some ⟨c, 0, none⟩), .pointer (some ⟨b, 0, none⟩)], .func (.func 260) #[] #[.pointer (some ⟨b, 0, none⟩), .pointer (some ⟨c, 0, none⟩)], .func (.func 261) #[] #[.pointer (some ⟨c, 0, none⟩), .pointer (some ⟨a, 0, none⟩), .pointer (some ⟨b, 0, none⟩)], .func (.func 262) #[] #[.pointer (some ⟨c, 0, none⟩)]] (0, 0) _ rfl (setRow_heap w1 _ _ _ 116 (0, 0) hx.out) hu rfl (by exact info_field)) rfl ?_
  have hsz : W.heap.size + 1 < ((W.alloc (Obj.cells #[] 118)).alloc (Obj.cells #[Value.nilFunc, Value.nilFunc, Value.nilFunc, Value.nilFunc] 116)).heap.size := by simp
  obtain ⟨na, nb, nc⟩ := hn_.out
  refine ⟨_, _, _, _, _, _, _, _, rfl, whole_field off_seqs ent_seqs ⟨?_, ?_, ?_⟩ ?_ ?_ ?_ ?_ (fun m => m.sq) _ (fun m => rfl) (fun m b => rfl)⟩
  · exact (setRow_other w1 _ _ _ (by omega)).trans hw_.out.a
  · exact (setRow_other w1 _ _ _ (by omega)).trans hw_.out.b
  · exact (setRow_other w1 _ _ _ (by omega)).trans hw_.out.c
  · omega
  · omega
  · omega
  · exact below_setRow ((below_alloc (below_alloc (Below.refl _ W) _) _).trans (below_weaken' hB_.out (by omega))) (by omega) _
set_option maxRecDepth 100000 in
theorem fs_levels : FieldSem 101 (fun m _ => decide (0 ≤ m.lv ∧ m.lv ≤ 3)) (fun m b => { b with lv := m.lv }) := by
  refine ⟨fun args w => by kernel_rfl, fun W => ?_⟩
  have hu := Tryz.underlying116
  go_enter Tryz.func101, Tryz.ntmps101
  go_wp2_with (first | (go_at_call 157; refine (whole_calls _ _ _ _).mono ?_; rintro e w1 ⟨a, b, c, rfl, hw, ha, hb, hc, hB⟩; (have hx := Aside0.mk ((hB.block (W.heap.size + 1) (by simp)).trans (new2 W _ _))); (have hw_ := Aside0.mk hw); clear hw; (have hn_ := Aside0.mk (And.intro ha (And.intro hb hc))); clear ha hb hc; (have hB_ := Aside0.mk hB); clear hB; simp only [WholeV]) | ((with_reducible refine wpList_store_row rfl 116 (.tmp 2) (.tmp 3) rfl (W.heap.size + 1) #[.func (.func 259) #[] #[.pointer (some ⟨c, 0, none⟩), .pointer (some ⟨b, 0, none⟩)], .func (.func 260) #[] #[.pointer (some ⟨b, 0, none⟩), .pointer (some ⟨c, 0, none⟩)], .func (.func 261) #[] #[.pointer (some ⟨c, 0, none⟩), .pointer (some ⟨a, 0, none⟩), .pointer (some ⟨b, 0, none⟩)], .func (.func 262) #[] #[.pointer (some ⟨c, 0, none⟩)]] ?d1 ?d2 116 #[.nilFunc, .nilFunc, .nilFunc, .nilFunc] ?c1 ?c2 ?c3 ?c4 ?_); (case d1 => rfl); (case d2 => rfl); (case c1 => exact hx.out); (case c2 => exact info_field); (case c3 => rfl); (case c4 => kernel_rfl)) | go_in)
  refine bodyPost_ret (results_cell1 (P := Tryz.prog) rfl _ _ (W.heap.size + 1) 116 #[.func (.func 259) #[] #[.pointer (some ⟨c, 0, none⟩), .pointer (some ⟨b, 0, none⟩)], .func (.func 260) #[] #[.pointer (some ⟨b, 0, none⟩), .pointer (some ⟨c, 0, none⟩)], .func (.func 261) #[] #[.pointer (some ⟨c, 0, none⟩), .pointer (some ⟨a, 0, none⟩), .pointer (some ⟨b, 0, none⟩)], .func (.func 262) #[] #[.pointer (some ⟨c, 0, none⟩)]] (0, 0) _ rfl (setRow_heap w1 _ _ _ 116 (0, 0) hx.out) hu rfl (by exact info_field)) rfl ?_
  have hsz : W.heap.size + 1 < ((W.alloc (Obj.cells #[] 118)).alloc (Obj.cells #[Value.nilFunc, Value.nilFunc, Value.nilFunc, Value.nilFunc] 116)).heap.size := by simp
  obtain ⟨na, nb, nc⟩ := hn_.out
  refine ⟨_, _, _, _, _, _, _, _, rfl, whole_field off_levels ent_levels ⟨?_, ?_, ?_⟩ ?_ ?_ ?_ ?_ (fun m => m.lv) _ (fun m => rfl) (fun m b => rfl)⟩
  · exact (setRow_other w1 _ _ _ (by omega)).trans hw_.out.a
  · exact (setRow_other w1 _ _ _ (by omega)).trans hw_.out.b
  · exact (setRow_other w1 _ _ _ (by omega)).trans hw_.out.c
  · omega
  · omega
  · omega
  · exact below_setRow ((below_alloc (below_alloc (Below.refl _ W) _) _).trans (below_weaken' hB_.out (by omega))) (by omega) _
end Msg

end Go.Proofs.YtepkaaplhcbkbaaGreat.G
