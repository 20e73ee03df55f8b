import Derived.Test.YtepkaaplhcbkbaaGreatT9
import Derived.Test.YtepkaaplhcbkbaaGreatGx6
import Derived.Deep.Upon
import Derived.Deep.QuietTactic
import Derived.BigQuiet
import Derived.Deep.RegionHeld3
import Derived.Deep.DeepCutAuto
import Derived.Deep.CutBlock
import Derived.Laws.EntriesVeiled
import Derived.StillTailTactics
import Derived.Laws.Tables
import Derived.Laws.CopyOwn
import Derived.IntWalk
import Derived.Test.YtepkaaplhcbkbaaGreatBlocks
import Derived.Laws.CopyOwn
import Derived.Laws.Tables
import Derived.Outline
namespace Go.Proofs.YtepkaaplhcbkbaaGreat.G
open Go.RowKit Go.Proofs.YtepkaaplhcbkbaaGreatW.PrintWords Go.Proofs.YtepkaaplhcbkbaaGreatW.PrintLast Go.Proofs.YtepkaaplhcbkbaaGreatW.PrintMore
set_option linter.unusedVariables false
set_option linter.unusedSimpArgs false
namespace Cli
open Msg
theorem info_msg : (Tryz.prog.info? 49).map (·.size) = some 37 := by kernel_rfl
def zero16 : Array Value := #[.int .i64 0, .int .i64 0, .bool false, .string ⟨#[]⟩, .int .i64 0, .string ⟨#[]⟩, .string ⟨#[]⟩, .int .i64 0, .int .i64 0, .int .i64 0, .int .i64 0, .int .i64 0, .string ⟨#[]⟩, .string ⟨#[]⟩, .int .i64 0, .bool false]
/-- What goes out for an update. -/
def outMsg (id : Int) (to_ : Int) (q : Rq) : Mg := ⟨1, 100 + id, to_, 0, 0, id, q.nu, 0, ⟨#[]⟩, q.ok, q.okey, q.oval, q.over, 0, 0, 0, 0, ⟨#[]⟩, ⟨#[]⟩, 0, 0, 0, ⟨#[]⟩, ⟨#[]⟩, 0, false, 0, none, 0, 0, 0, none, 0, 0, none, 0, 0, 0, false, none, 0, 0, 0, 0, 0⟩
set_option maxRecDepth 100000 in
set_option maxHeartbeats 1000000 in
theorem out_calls {W : World} {base c q : Nat} {id e ep nu : Int} {ch : List Int} {rq : Rq} (h : Cl W base c id e ch ep nu (some ⟨q, 0, none⟩)) (hq : W.heap[q]? = some (.cells rq.cells 147 (0, 0))) (hi : 1 ≤ id) (h16 : id ≤ 16) (hrd : rq.rd = false) (to_ : Int) : Calls Tryz.prog 67 #[.pointer (some ⟨c, 0, none⟩), .int .i64 to_] W fun r w => r = .returned (.agg (outMsg id to_ rq).cells) ∧ Below W.heap.size W w := by
  obtain ⟨A, cc, hb, ho⟩ := h.out
  have hs : IntKind.i64.wrap (100 + id) = 100 + id := IntWalk.i64_in _ (by omega)
  have HQ := Aside0.mk (blk_alloc hq (.cells #[.int .i64 0, .int .i64 0, .int .i64 0, .int .i64 0, .int .i64 0, .int .i64 0, .int .i64 0, .int .i64 0, .string ⟨#[]⟩, .int .i64 0, .string ⟨#[]⟩, .string ⟨#[]⟩, .int .i64 0, .int .i64 0, .int .i64 0, .int .i64 0, .int .i64 0, .string ⟨#[]⟩, .string ⟨#[]⟩, .int .i64 0, .int .i64 0, .int .i64 0, .string ⟨#[]⟩, .string ⟨#[]⟩, .int .i64 0, .bool false, .int .i64 0, .slice none 0 0, .int .i64 0, .slice none 0 0, .slice none 0 0, .int .i64 0, .bool false, .slice none 0 0, .int .i64 0, .int .i64 0, .int .i64 0] 49))
  have HB := Aside0.mk (blk_alloc hb (.cells #[.int .i64 0, .int .i64 0, .int .i64 0, .int .i64 0, .int .i64 0, .int .i64 0, .int .i64 0, .int .i64 0, .string ⟨#[]⟩, .int .i64 0, .string ⟨#[]⟩, .string ⟨#[]⟩, .int .i64 0, .int .i64 0, .int .i64 0, .int .i64 0, .int .i64 0, .string ⟨#[]⟩, .string ⟨#[]⟩, .int .i64 0, .int .i64 0, .int .i64 0, .string ⟨#[]⟩, .string ⟨#[]⟩, .int .i64 0, .bool false, .int .i64 0, .slice none 0 0, .int .i64 0, .slice none 0 0, .slice none 0 0, .int .i64 0, .bool false, .slice none 0 0, .int .i64 0, .int .i64 0, .int .i64 0] 49))
  have HZ := Aside0.mk (blk_new W (.cells #[.int .i64 0, .int .i64 0, .int .i64 0, .int .i64 0, .int .i64 0, .int .i64 0, .int .i64 0, .int .i64 0, .string ⟨#[]⟩, .int .i64 0, .string ⟨#[]⟩, .string ⟨#[]⟩, .int .i64 0, .int .i64 0, .int .i64 0, .int .i64 0, .int .i64 0, .string ⟨#[]⟩, .string ⟨#[]⟩, .int .i64 0, .int .i64 0, .int .i64 0, .string ⟨#[]⟩, .string ⟨#[]⟩, .int .i64 0, .bool false, .int .i64 0, .slice none 0 0, .int .i64 0, .slice none 0 0, .slice none 0 0, .int .i64 0, .bool false, .slice none 0 0, .int .i64 0, .int .i64 0, .int .i64 0] 49))
  have HW := Aside0.mk (below_alloc (Below.refl W.heap.size W) (.cells #[.int .i64 0, .int .i64 0, .int .i64 0, .int .i64 0, .int .i64 0, .int .i64 0, .int .i64 0, .int .i64 0, .string ⟨#[]⟩, .int .i64 0, .string ⟨#[]⟩, .string ⟨#[]⟩, .int .i64 0, .int .i64 0, .int .i64 0, .int .i64 0, .int .i64 0, .string ⟨#[]⟩, .string ⟨#[]⟩, .int .i64 0, .int .i64 0, .int .i64 0, .string ⟨#[]⟩, .string ⟨#[]⟩, .int .i64 0, .bool false, .int .i64 0, .slice none 0 0, .int .i64 0, .slice none 0 0, .slice none 0 0, .int .i64 0, .bool false, .slice none 0 0, .int .i64 0, .int .i64 0, .int .i64 0] 49))
  have HRD := Aside0.mk hrd
  have HI7 : Aside0 ((Tryz.prog.info? 77).map (·.size) = some 16) := ⟨by kernel_rfl⟩
  clear hb ho h hq hrd
  go_enter Tryz.func67, Tryz.ntmps67
  go_upto_region 1 with fail
  generalize W.alloc (.cells #[.int .i64 0, .int .i64 0, .int .i64 0, .int .i64 0, .int .i64 0, .int .i64 0, .int .i64 0, .int .i64 0, .string ⟨#[]⟩, .int .i64 0, .string ⟨#[]⟩, .string ⟨#[]⟩, .int .i64 0, .int .i64 0, .int .i64 0, .int .i64 0, .int .i64 0, .string ⟨#[]⟩, .string ⟨#[]⟩, .int .i64 0, .int .i64 0, .int .i64 0, .string ⟨#[]⟩, .string ⟨#[]⟩, .int .i64 0, .bool false, .int .i64 0, .slice none 0 0, .int .i64 0, .slice none 0 0, .slice none 0 0, .int .i64 0, .bool false, .slice none 0 0, .int .i64 0, .int .i64 0, .int .i64 0] 49) = w1 at HQ HB HZ HW ⊢
  have h0 : w1.cell? ⟨c, 0, none⟩ = some (.int .i64 id) := blk_cell HB.out 0
  have h5 : w1.cell? ⟨c, 5, none⟩ = some (.pointer (some ⟨q, 0, none⟩)) := blk_cell HB.out 5
  have q0 : w1.cell? ⟨q, 0, none⟩ = some (.int .i64 rq.cl) := blk_cell HQ.out 0
  have q1 : w1.cell? ⟨q, 1, none⟩ = some (.int .i64 rq.nu) := blk_cell HQ.out 1
  have q2 : w1.cell? ⟨q, 2, none⟩ = some (.bool rq.rd) := blk_cell HQ.out 2
  have q3 : w1.cell? ⟨q, 3, none⟩ = some (.string rq.key) := blk_cell HQ.out 3
  have q4 : w1.cell? ⟨q, 4, none⟩ = some (.int .i64 rq.ok) := blk_cell HQ.out 4
  have q5 : w1.cell? ⟨q, 5, none⟩ = some (.string rq.okey) := blk_cell HQ.out 5
  have q6 : w1.cell? ⟨q, 6, none⟩ = some (.string rq.oval) := blk_cell HQ.out 6
  have q7 : w1.cell? ⟨q, 7, none⟩ = some (.int .i64 rq.over) := blk_cell HQ.out 7
  have q8 : w1.cell? ⟨q, 8, none⟩ = some (.int .i64 rq.bg) := blk_cell HQ.out 8
  have q9 : w1.cell? ⟨q, 9, none⟩ = some (.int .i64 rq.en) := blk_cell HQ.out 9
  have q10 : w1.cell? ⟨q, 10, none⟩ = some (.int .i64 rq.rc) := blk_cell HQ.out 10
  have q11 : w1.cell? ⟨q, 11, none⟩ = some (.int .i64 rq.rv) := blk_cell HQ.out 11
  have q12 : w1.cell? ⟨q, 12, none⟩ = some (.string rq.rkey) := blk_cell HQ.out 12
  have q13 : w1.cell? ⟨q, 13, none⟩ = some (.string rq.rval) := blk_cell HQ.out 13
  have q14 : w1.cell? ⟨q, 14, none⟩ = some (.int .i64 rq.rver) := blk_cell HQ.out 14
  have q15 : w1.cell? ⟨q, 15, none⟩ = some (.bool rq.fd) := blk_cell HQ.out 15
  go_wp2_with (first | ((with_reducible refine wpList_store_row rfl 77 (.tmp 5) (.tmp 13) rfl w1.heap.size rq.call ?d1 ?d2 77 zero16 ?c1 ?c2 ?c3 ?c4 ?_); (case d1 => rfl); (case d2 => rfl); (case c1 => exact blk_new w1 _); (case c2 => exact HI7.out); (case c3 => rfl); (case c4 => kernel_rfl)) | go_in)
  have HS := Aside0.mk (blk_lt HB.out)
  have HB3 := Aside0.mk ((setRow_other (w1.alloc (.cells #[.int .i64 0, .int .i64 0, .bool false, .string ⟨#[]⟩, .int .i64 0, .string ⟨#[]⟩, .string ⟨#[]⟩, .int .i64 0, .int .i64 0, .int .i64 0, .int .i64 0, .int .i64 0, .string ⟨#[]⟩, .string ⟨#[]⟩, .int .i64 0, .bool false] 77)) _ _ rq.call (Nat.ne_of_lt HS.out)).trans (blk_alloc HB.out _))
  have HZ3 := Aside0.mk ((setRow_other (w1.alloc (.cells #[.int .i64 0, .int .i64 0, .bool false, .string ⟨#[]⟩, .int .i64 0, .string ⟨#[]⟩, .string ⟨#[]⟩, .int .i64 0, .int .i64 0, .int .i64 0, .int .i64 0, .int .i64 0, .string ⟨#[]⟩, .string ⟨#[]⟩, .int .i64 0, .bool false] 77)) _ _ rq.call (Nat.ne_of_lt (blk_lt HZ.out))).trans (blk_alloc HZ.out _))
  have HC3 := Aside0.mk (setRow_heap (w1.alloc (.cells #[.int .i64 0, .int .i64 0, .bool false, .string ⟨#[]⟩, .int .i64 0, .string ⟨#[]⟩, .string ⟨#[]⟩, .int .i64 0, .int .i64 0, .int .i64 0, .int .i64 0, .int .i64 0, .string ⟨#[]⟩, .string ⟨#[]⟩, .int .i64 0, .bool false] 77)) w1.heap.size _ rq.call _ (0, 0) (blk_new _ _))
  have HW3 := Aside0.mk (below_setRow (HW.out.alloc HW.out.size (.cells #[.int .i64 0, .int .i64 0, .bool false, .string ⟨#[]⟩, .int .i64 0, .string ⟨#[]⟩, .string ⟨#[]⟩, .int .i64 0, .int .i64 0, .int .i64 0, .int .i64 0, .int .i64 0, .string ⟨#[]⟩, .string ⟨#[]⟩, .int .i64 0, .bool false] 77)) HW.out.size rq.call)
  clear h0 h5 q0 q1 q2 q3 q4 q5 q6 q7 q8 q9 q10 q11 q12 q13 q14 q15
  generalize (w1.alloc (.cells #[.int .i64 0, .int .i64 0, .bool false, .string ⟨#[]⟩, .int .i64 0, .string ⟨#[]⟩, .string ⟨#[]⟩, .int .i64 0, .int .i64 0, .int .i64 0, .int .i64 0, .int .i64 0, .string ⟨#[]⟩, .string ⟨#[]⟩, .int .i64 0, .bool false] 77)).setRow w1.heap.size rq.call = w3 at HB3 HZ3 HC3 HW3 ⊢
  generalize w1.heap.size = cb at HC3 ⊢
  refine wp_region_held_drew (S := fun w' => Aside0 (w'.heap[c]? = some (.cells #[.int .i64 id, .int .i64 e, .slice A ch.length cc, .int .i64 ep, .int .i64 nu, .pointer (some ⟨q, 0, none⟩)] 68 (0, 0)) ∧ w'.heap[cb]? = some (.cells rq.call 77 (0, 0)) ∧ w'.heap[W.heap.size]? = some (.cells zero37 49 (0, 0)) ∧ Below W.heap.size W w')) (by kernel_rfl) ⟨blk_drew HB3.out, blk_drew HC3.out, blk_drew HZ3.out, HW3.out.trans (below_weaken' (Drawn0.below ⟨1, rfl⟩) HW3.out.size)⟩ (fun hHeld => ?_)
  refine wpAnyH_take (i := 0) (oi := Oper.mk _ _ _ _ _ _) (v := ?v0) rfl (by kernel_rfl) (by kernel_rfl) (by kernel_rfl) (fun _ _ _ h => h) (Or.inl ⟨by rfl, ?hy0⟩) (by assumption) ?r0
  case hy0 => (intro w hSw; clear hSw; go_simp; (try with_reducible rfl))
  try simp only [Act.put, List.setIfInBounds_toArray, List.set_cons_zero, List.set_cons_succ]
  refine wpAnyH_take (i := 1) (oi := Oper.mk _ _ _ _ _ _) (v := ?v1) rfl (by kernel_rfl) (by kernel_rfl) (by kernel_rfl) (fun _ _ _ h => h) (Or.inl ⟨by rfl, ?hy1⟩) (by assumption) ?r1
  case hy1 => (intro w hSw; clear hSw; go_simp; (try with_reducible rfl))
  try simp only [Act.put, List.setIfInBounds_toArray, List.set_cons_zero, List.set_cons_succ]
  refine wpAnyH_take (i := 2) (oi := Oper.mk _ _ _ _ _ _) (v := ?v2) rfl (by kernel_rfl) (by kernel_rfl) (by kernel_rfl) (fun _ _ _ h => h) (Or.inl ⟨by rfl, ?hy2⟩) (by assumption) ?r2
  case hy2 => (intro w hSw; clear hSw; go_simp; (try with_reducible rfl))
  try simp only [Act.put, List.setIfInBounds_toArray, List.set_cons_zero, List.set_cons_succ]
  refine wpAnyH_take (i := 3) (oi := Oper.mk _ _ _ _ _ _) (v := ?v3) rfl (by kernel_rfl) (by kernel_rfl) (by kernel_rfl) (fun _ _ _ h => h) (Or.inl ⟨by rfl, ?hy3⟩) (by assumption) ?r3
  case hy3 => (intro w hSw; (have g0 : w.cell? ⟨c, 0, none⟩ = some (.int .i64 id) := blk_cell hSw.out.1 0); (have g1 : w.cell? ⟨cb, 1, none⟩ = some (.int .i64 rq.nu) := blk_cell hSw.out.2.1 1); (have g4 : w.cell? ⟨cb, 4, none⟩ = some (.int .i64 rq.ok) := blk_cell hSw.out.2.1 4); (have g5 : w.cell? ⟨cb, 5, none⟩ = some (.string rq.okey) := blk_cell hSw.out.2.1 5); (have g6 : w.cell? ⟨cb, 6, none⟩ = some (.string rq.oval) := blk_cell hSw.out.2.1 6); (have g7 : w.cell? ⟨cb, 7, none⟩ = some (.int .i64 rq.over) := blk_cell hSw.out.2.1 7); clear hSw; go_simp; (try with_reducible rfl))
  try simp only [Act.put, List.setIfInBounds_toArray, List.set_cons_zero, List.set_cons_succ]
  refine wpAnyH_take (i := 4) (oi := Oper.mk _ _ _ _ _ _) (v := ?v4) rfl (by kernel_rfl) (by kernel_rfl) (by kernel_rfl) (fun _ _ _ h => h) (Or.inl ⟨by rfl, ?hy4⟩) (by assumption) ?r4
  case hy4 => (intro w hSw; clear hSw; go_simp; (try with_reducible rfl))
  try simp only [Act.put, List.setIfInBounds_toArray, List.set_cons_zero, List.set_cons_succ]
  refine wpAnyH_take (i := 5) (oi := Oper.mk _ _ _ _ _ _) (v := ?v5) rfl (by kernel_rfl) (by kernel_rfl) (by kernel_rfl) (fun _ _ _ h => h) (Or.inl ⟨by rfl, ?hy5⟩) (by assumption) ?r5
  case hy5 => (intro w hSw; clear hSw; go_simp; (try with_reducible rfl))
  try simp only [Act.put, List.setIfInBounds_toArray, List.set_cons_zero, List.set_cons_succ]
  refine wpAnyH_take (i := 6) (oi := Oper.mk _ _ _ _ _ _) (v := ?v6) rfl (by kernel_rfl) (by kernel_rfl) (by kernel_rfl) (fun _ _ _ h => h) (Or.inl ⟨by rfl, ?hy6⟩) (by assumption) ?r6
  case hy6 => (intro w hSw; clear hSw; go_simp; (try with_reducible rfl))
  try simp only [Act.put, List.setIfInBounds_toArray, List.set_cons_zero, List.set_cons_succ]
  refine wpAnyH_take (i := 7) (oi := Oper.mk _ _ _ _ _ _) (v := ?v7) rfl (by kernel_rfl) (by kernel_rfl) (by kernel_rfl) (fun _ _ _ h => h) (Or.inl ⟨by rfl, ?hy7⟩) (by assumption) ?r7
  case hy7 => (intro w hSw; clear hSw; go_simp; (try with_reducible rfl))
  try simp only [Act.put, List.setIfInBounds_toArray, List.set_cons_zero, List.set_cons_succ]
  refine wpAnyH_take (i := 8) (oi := Oper.mk _ _ _ _ _ _) (v := ?v8) rfl (by kernel_rfl) (by kernel_rfl) (by kernel_rfl) (fun _ _ _ h => h) (Or.inl ⟨by rfl, ?hy8⟩) (by assumption) ?r8
  case hy8 => (intro w hSw; clear hSw; go_simp; (try with_reducible rfl))
  try simp only [Act.put, List.setIfInBounds_toArray, List.set_cons_zero, List.set_cons_succ]
  refine wpAnyH_take (i := 9) (oi := Oper.mk _ _ _ _ _ _) (v := ?v9) rfl (by kernel_rfl) (by kernel_rfl) (by kernel_rfl) (fun _ _ _ h => h) (Or.inl ⟨by rfl, ?hy9⟩) (by assumption) ?r9
  case hy9 => (intro w hSw; (have g0 : w.cell? ⟨c, 0, none⟩ = some (.int .i64 id) := blk_cell hSw.out.1 0); (have g1 : w.cell? ⟨cb, 1, none⟩ = some (.int .i64 rq.nu) := blk_cell hSw.out.2.1 1); (have g4 : w.cell? ⟨cb, 4, none⟩ = some (.int .i64 rq.ok) := blk_cell hSw.out.2.1 4); (have g5 : w.cell? ⟨cb, 5, none⟩ = some (.string rq.okey) := blk_cell hSw.out.2.1 5); (have g6 : w.cell? ⟨cb, 6, none⟩ = some (.string rq.oval) := blk_cell hSw.out.2.1 6); (have g7 : w.cell? ⟨cb, 7, none⟩ = some (.int .i64 rq.over) := blk_cell hSw.out.2.1 7); clear hSw; go_simp; (try with_reducible rfl))
  try simp only [Act.put, List.setIfInBounds_toArray, List.set_cons_zero, List.set_cons_succ]
  refine wpAnyH_take (i := 10) (oi := Oper.mk _ _ _ _ _ _) (v := ?v10) rfl (by kernel_rfl) (by kernel_rfl) (by kernel_rfl) (fun _ _ _ h => h) (Or.inl ⟨by rfl, ?hy10⟩) (by assumption) ?r10
  case hy10 => (intro w hSw; clear hSw; go_simp; (try with_reducible rfl))
  try simp only [Act.put, List.setIfInBounds_toArray, List.set_cons_zero, List.set_cons_succ]
  refine wpAnyH_take (i := 11) (oi := Oper.mk _ _ _ _ _ _) (v := ?v11) rfl (by kernel_rfl) (by kernel_rfl) (by kernel_rfl) (fun _ _ _ h => h) (Or.inl ⟨by rfl, ?hy11⟩) (by assumption) ?r11
  case hy11 => (intro w hSw; (have g0 : w.cell? ⟨c, 0, none⟩ = some (.int .i64 id) := blk_cell hSw.out.1 0); (have g1 : w.cell? ⟨cb, 1, none⟩ = some (.int .i64 rq.nu) := blk_cell hSw.out.2.1 1); (have g4 : w.cell? ⟨cb, 4, none⟩ = some (.int .i64 rq.ok) := blk_cell hSw.out.2.1 4); (have g5 : w.cell? ⟨cb, 5, none⟩ = some (.string rq.okey) := blk_cell hSw.out.2.1 5); (have g6 : w.cell? ⟨cb, 6, none⟩ = some (.string rq.oval) := blk_cell hSw.out.2.1 6); (have g7 : w.cell? ⟨cb, 7, none⟩ = some (.int .i64 rq.over) := blk_cell hSw.out.2.1 7); clear hSw; go_simp; (try with_reducible rfl))
  try simp only [Act.put, List.setIfInBounds_toArray, List.set_cons_zero, List.set_cons_succ]
  refine wpAnyH_take (i := 12) (oi := Oper.mk _ _ _ _ _ _) (v := ?v12) rfl (by kernel_rfl) (by kernel_rfl) (by kernel_rfl) (fun _ _ _ h => h) (Or.inl ⟨by rfl, ?hy12⟩) (by assumption) ?r12
  case hy12 => (intro w hSw; clear hSw; go_simp; (try with_reducible rfl))
  try simp only [Act.put, List.setIfInBounds_toArray, List.set_cons_zero, List.set_cons_succ]
  refine wpAnyH_take (i := 13) (oi := Oper.mk _ _ _ _ _ _) (v := ?v13) rfl (by kernel_rfl) (by kernel_rfl) (by kernel_rfl) (fun _ _ _ h => h) (Or.inl ⟨by rfl, ?hy13⟩) (by assumption) ?r13
  case hy13 => (intro w hSw; (have g0 : w.cell? ⟨c, 0, none⟩ = some (.int .i64 id) := blk_cell hSw.out.1 0); (have g1 : w.cell? ⟨cb, 1, none⟩ = some (.int .i64 rq.nu) := blk_cell hSw.out.2.1 1); (have g4 : w.cell? ⟨cb, 4, none⟩ = some (.int .i64 rq.ok) := blk_cell hSw.out.2.1 4); (have g5 : w.cell? ⟨cb, 5, none⟩ = some (.string rq.okey) := blk_cell hSw.out.2.1 5); (have g6 : w.cell? ⟨cb, 6, none⟩ = some (.string rq.oval) := blk_cell hSw.out.2.1 6); (have g7 : w.cell? ⟨cb, 7, none⟩ = some (.int .i64 rq.over) := blk_cell hSw.out.2.1 7); clear hSw; go_simp; (try with_reducible rfl))
  try simp only [Act.put, List.setIfInBounds_toArray, List.set_cons_zero, List.set_cons_succ]
  refine wpAnyH_take (i := 14) (oi := Oper.mk _ _ _ _ _ _) (v := ?v14) rfl (by kernel_rfl) (by kernel_rfl) (by kernel_rfl) (fun _ _ _ h => h) (Or.inl ⟨by rfl, ?hy14⟩) (by assumption) ?r14
  case hy14 => (intro w hSw; clear hSw; go_simp; (try with_reducible rfl))
  try simp only [Act.put, List.setIfInBounds_toArray, List.set_cons_zero, List.set_cons_succ]
  refine wpAnyH_ready (rs := [15]) (by kernel_rfl) (by simp) ?_
  refine AllReadyH.cons (o := Oper.mk _ _ _ _ _ _) rfl (fun K hK => ?_) AllReadyH.nil
  go_simp
  refine hK.out _ _ ?hS15 (fun hHeld => ?r15)
  case hS15 => exact ⟨blk_alloc hHeld.out.1 _, blk_alloc hHeld.out.2.1 _, blk_alloc hHeld.out.2.2.1 _, hHeld.out.2.2.2.alloc hHeld.out.2.2.2.size _⟩
  clear hK K
  try simp only [Act.put, List.setIfInBounds_toArray, List.set_cons_zero, List.set_cons_succ]
  have HZB := Aside0.mk HW3.out.size
  have HX0 := Aside0.mk (show (w3.alloc (.cells #[.int .i64 0, .int .i64 0, .int .i64 0, .int .i64 0, .int .i64 0, .int .i64 0, .int .i64 0, .int .i64 0, .string ⟨#[]⟩, .int .i64 0, .string ⟨#[]⟩, .string ⟨#[]⟩, .int .i64 0, .int .i64 0, .int .i64 0, .int .i64 0, .int .i64 0, .string ⟨#[]⟩, .string ⟨#[]⟩, .int .i64 0, .int .i64 0, .int .i64 0, .string ⟨#[]⟩, .string ⟨#[]⟩, .int .i64 0, .bool false, .int .i64 0, .slice none 0 0, .int .i64 0, .slice none 0 0, .slice none 0 0, .int .i64 0, .bool false, .slice none 0 0, .int .i64 0, .int .i64 0, .int .i64 0] 49)).drew.heap[w3.heap.size]? = some (.cells zero37 49 (0, 0)) from blk_new w3.drew _)
  have HN1 := Aside0.mk (Nat.ne_of_lt (blk_lt HB3.out))
  have HN2 := Aside0.mk (Nat.ne_of_lt (blk_lt HC3.out))
  have HN3 := Aside0.mk (Nat.ne_of_lt (blk_lt HZ3.out))
  generalize (w3.alloc (.cells #[.int .i64 0, .int .i64 0, .int .i64 0, .int .i64 0, .int .i64 0, .int .i64 0, .int .i64 0, .int .i64 0, .string ⟨#[]⟩, .int .i64 0, .string ⟨#[]⟩, .string ⟨#[]⟩, .int .i64 0, .int .i64 0, .int .i64 0, .int .i64 0, .int .i64 0, .string ⟨#[]⟩, .string ⟨#[]⟩, .int .i64 0, .int .i64 0, .int .i64 0, .string ⟨#[]⟩, .string ⟨#[]⟩, .int .i64 0, .bool false, .int .i64 0, .slice none 0 0, .int .i64 0, .slice none 0 0, .slice none 0 0, .int .i64 0, .bool false, .slice none 0 0, .int .i64 0, .int .i64 0, .int .i64 0] 49)).drew = w5 at hHeld HX0 ⊢
  generalize w3.heap.size = mb at HX0 HN1 HN2 HN3 HZB ⊢
  refine wpAnyH_ready (rs := [16]) (by kernel_rfl) (by simp) ?_
  refine AllReadyH.cons (o := Oper.mk _ _ _ _ _ _) rfl (fun K hK => ?_) AllReadyH.nil
  rw [if_pos (by rfl)]
  refine wp_store_row 49 (.tmp 6) (.tmp 28) rfl mb (outMsg id to_ rq).cells ?d1 ?d2 49 zero37 ?c1 ?c2 ?c3 ?c4 ?_
  case d1 => rfl
  case d2 => rfl
  case c1 => exact HX0.out
  case c2 => exact info_msg
  case c3 => rfl
  case c4 => kernel_rfl
  refine hK.out _ _ ?hS16 (fun hHeld => ?r16)
  case hS16 => exact ⟨(setRow_other _ _ _ _ HN1.out).trans hHeld.out.1, (setRow_other _ _ _ _ HN2.out).trans hHeld.out.2.1, (setRow_other _ _ _ _ HN3.out).trans hHeld.out.2.2.1, below_setRow hHeld.out.2.2.2 HZB.out _⟩
  clear hK K
  try simp only [Act.put, List.setIfInBounds_toArray, List.set_cons_zero, List.set_cons_succ]
  refine wpAnyH_done (by kernel_rfl) ?_ _
  have HX := Aside0.mk (setRow_heap w5 mb _ (outMsg id to_ rq).cells _ (0, 0) HX0.out)
  generalize w5.setRow mb (outMsg id to_ rq).cells = w4 at HX hHeld ⊢
  obtain ⟨_, hK4, hZ4, hW4⟩ := hHeld.out
  have k2 : w4.cell? ⟨cb, 2, none⟩ = some (.bool rq.rd) := blk_cell hK4 2
  rw [HRD.out] at k2
  have HZ4 := Aside0.mk hZ4
  have HW4 := Aside0.mk hW4
  have HU := Aside0.mk Tryz.underlying49
  clear hHeld hK4 hZ4 hW4
  go_wp2_with (first | ((with_reducible refine wpList_load_row rfl 49 (.tmp 6) rfl mb ?_ 49 (outMsg id to_ rq).cells (0, 0) _ HX.out HU.out ?_ ?_ ?_); (· rfl); (· rfl); (· exact info_msg)) | ((with_reducible refine wpList_store_row rfl 49 (.tmp 4) (.tmp 35) rfl W.heap.size (outMsg id to_ rq).cells ?d1 ?d2 49 zero37 ?c1 ?c2 ?c3 ?c4 ?_); (case d1 => rfl); (case d2 => rfl); (case c1 => exact HZ4.out); (case c2 => exact info_msg); (case c3 => rfl); (case c4 => kernel_rfl)) | go_in)
  refine bodyPost_ret (results_cell1 (P := Tryz.prog) rfl _ _ W.heap.size 49 (outMsg id to_ rq).cells (0, 0) _ rfl (setRow_heap w4 _ _ _ 49 (0, 0) HZ4.out) HU.out rfl info_msg) rfl ?_
  exact ⟨rfl, below_setRow HW4.out (Nat.le_refl _) _⟩
end Cli

end Go.Proofs.YtepkaaplhcbkbaaGreat.G
