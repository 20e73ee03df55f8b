import Derived.Test.YtepkaaplhcbkbaaGreatT11
import Derived.Test.YtepkaaplhcbkbaaGreatGx4
import Derived.Test.YtepkaaplhcbkbaaGreatGx6
import Derived.Deep.Upon
import Derived.Deep.QuietTactic
import Derived.BigQuiet
import Derived.Deep.RegionHeld3
import Derived.Deep.DeepCutAuto
import Derived.Deep.CutBlock
import Derived.Laws.EntriesVeiled
import Derived.StillTailTactics
import Derived.Laws.Tables
import Derived.Laws.CopyOwn
import Derived.Great.Walk
import Derived.Great.BuildSlice
import Derived.IntWalk
import Derived.Test.YtepkaaplhcbkbaaGreatBlocks
import Derived.Laws.CopyOwn
import Derived.Laws.Tables
import Derived.Outline
namespace Go.Proofs.YtepkaaplhcbkbaaGreat.G
open Go.RowKit Go.Proofs.YtepkaaplhcbkbaaGreatW.PrintWords Go.Proofs.YtepkaaplhcbkbaaGreatW.PrintLast Go.Proofs.YtepkaaplhcbkbaaGreatW.PrintMore
set_option linter.unusedVariables false
set_option linter.unusedSimpArgs false
namespace Cli
open Msg
set_option maxRecDepth 100000
theorem R_setc {W : World} {base c : Nat} {v : Value} {xs : List Int} {cs : Array Value} (h : Kd.R (Kd.int .i64) 3 W base (fun _ => True) v xs) (hb : W.heap[c]? = some (.cells cs 68 (0, 0))) (k : Nat) (u : Value) : Kd.R (Kd.int .i64) 3 (W.setCell ⟨c, k, none⟩ u) base (fun _ => True) v xs :=
  Kd.R_of_own (own_setCell (Kd.own_of_R h) (p := ⟨c, k, none⟩) (own_ne (Kd.own_of_R h) hb (by decide)) _) (fun _ _ => trivial)
theorem builtMsg (m : Mg) (a : Act) (h : a.eval (.tmp 45) = .agg m.cells) : Tryz.prog.builtSlice 49 1 ((#[((0 : Nat), Operand.tmp 45)] : Array (Nat × Operand)).map fun (i, x) => (i, a.eval x)).toList = some m.cells := by
  have : ((#[((0 : Nat), Operand.tmp 45)] : Array (Nat × Operand)).map fun (i, x) => (i, a.eval x)).toList = [((0 : Nat), Value.agg m.cells)] := by simp [h]
  have e : Tryz.prog.builtSlice 49 1 [((0 : Nat), Value.agg m.cells)] = some m.cells := by kernel_rfl
  rw [this]
  exact e
/-- What an update lays down as its request. -/
def updRq (id nu ok : Int) (key val : ByteArray) (ver : Int) : Rq := ⟨id, nu, false, key, ok, key, val, ver, 0, -1, 0, 0, ⟨#[]⟩, ⟨#[]⟩, 0, false, 0, false⟩
/-- All blocks but c lie as they lay. -/
structure Fm (c : Nat) (W w : World) : Prop where
  size : W.heap.size ≤ w.heap.size
  blk : ∀ k, k < W.heap.size → k ≠ c → w.heap[k]? = W.heap[k]?
theorem Fm.of_below {c : Nat} {W w : World} (h : Below W.heap.size W w) : Fm c W w := ⟨h.size, fun k hk _ => h.block k hk⟩
theorem Fm.below {c : Nat} {W w w' : World} (h : Fm c W w) (hB : Below w.heap.size w w') : Fm c W w' := ⟨Nat.le_trans h.size hB.size, fun k hk hc => (hB.block k (Nat.lt_of_lt_of_le hk h.size)).trans (h.blk k hk hc)⟩
theorem Fm.set {c : Nat} {W w : World} (h : Fm c W w) (i : Nat) (v : Value) : Fm c W (w.setCell ⟨c, i, none⟩ v) := ⟨by rw [World.size_setCell]; exact h.size, fun k hk hc => (Below.heap_setCell w ⟨c, i, none⟩ v k hc).trans (h.blk k hk hc)⟩
set_option maxHeartbeats 2000000 in
theorem submit_fm {W : World} {base c : Nat} {id e ep nu : Int} {ch : List Int} (h : Cl W base c id e ch ep nu none) (hi : 1 ≤ id) (h16 : id ≤ 16) (hn0 : 0 ≤ nu) (hn : nu < 1152921504606846976) (key val : ByteArray) (hd : delta_isUser.f key = some true ∧ (val.size : Int) ≤ 65536) (to_ : Int) (hh : config_Head.f e ch = some to_) :
    Calls Tryz.prog 27 #[.pointer (some ⟨c, 0, none⟩), .agg #[.int .i64 1, .string key, .string val, .int .i64 0]] W fun r w => ∃ g q, r = .returned (.tuple #[.slice (some ⟨g, 0, none⟩) 1 1, .int .i64 0]) ∧ w.heap[g]? = some (.cells (outMsg id to_ (updRq id (nu + 1) 1 key val 0)).cells 49 (0, 0)) ∧ Cl w base c id e ch ep (nu + 1) (some ⟨q, 0, none⟩) ∧ w.heap[q]? = some (.cells (updRq id (nu + 1) 1 key val 0).cells 147 (0, 0)) ∧ base ≤ g ∧ base ≤ q ∧ Below base W w ∧ Fm c W w := by
  have HF := Aside0.mk (fun w (hw : w = W.alloc (.cells #[.int .i64 1, .string key, .string val, .int .i64 0] 32)) => free0_calls (hw ▸ h.below (below_alloc (Below.refl _ _) _) : Cl w base c id e ch ep nu none) hi (by omega))
  have hs : IntKind.i64.wrap (nu + 1) = nu + 1 := IntWalk.i64_in _ (by omega)
  have HD := Aside0.mk hd
  have HH := Aside0.mk hh
  have HI4 : Aside0 ((Tryz.prog.info? 32).map (·.size) = some 4) := ⟨by kernel_rfl⟩
  have HU4 := Aside0.mk Tryz.underlying32
  have HC1 := Aside0.mk (h.below (below_alloc (Below.refl W.heap.size W) (.cells #[.int .i64 1, .string key, .string val, .int .i64 0] 32)))
  have HO1 := Aside0.mk (blk_new W (.cells #[.int .i64 1, .string key, .string val, .int .i64 0] 32))
  have HB1 := Aside0.mk (below_alloc (Below.refl W.heap.size W) (.cells #[.int .i64 1, .string key, .string val, .int .i64 0] 32))
  have HL := Aside0.mk h.lt
  have HG := Aside0.mk h.ge
  clear h hd hh
  go_enter Tryz.func27, Tryz.ntmps27
  go_upto_region 7 with (first | (go_at_call 65; refine (HF.out _ rfl).mono ?_; rintro r w1 ⟨rfl, hw⟩; subst hw) | (go_at_call 66; refine (checkPut_calls _ _ _ HD.out.1 HD.out.2).mono ?_; rintro r w2 ⟨rfl, hb⟩; (have HC2 := Aside0.mk (HC1.out.below hb)); (have HO2 := Aside0.mk (blk_below HO1.out hb)); (have HB2 := Aside0.mk (HB1.out.trans (below_weaken' hb HB1.out.size))); clear hb; (obtain ⟨A, cc, hbx, hox⟩ := HC2.out.out); (have HX2 := Aside0.mk hbx); (have HR2 := Aside0.mk hox); (have c4 : w2.cell? ⟨c, 4, none⟩ = some (.int .i64 nu) := blk_cell hbx 4); (have f4 : w2.frozen? ⟨c, 4, none⟩ = false := blk_frozen hbx 4); clear hbx hox) | go_in)
  have HX3 := Aside0.mk (show (w2.setCell ⟨c, 4, none⟩ (.int .i64 (nu + 1))).heap[c]? = some (.cells #[.int .i64 id, .int .i64 e, .slice A ch.length cc, .int .i64 ep, .int .i64 (nu + 1), .pointer none] 68 (0, 0)) from blk_set HX2.out 4 _)
  have HO3 := Aside0.mk (show (w2.setCell ⟨c, 4, none⟩ (.int .i64 (nu + 1))).heap[W.heap.size]? = some (.cells #[.int .i64 1, .string key, .string val, .int .i64 0] 32 (0, 0)) from blk_far HO2.out (Nat.ne_of_gt HL.out) _)
  have HR3 := Aside0.mk (R_setc HR2.out HX2.out 4 (.int .i64 (nu + 1)))
  have HB3 := Aside0.mk (Below.setCell (p := ⟨c, 4, none⟩) (below_weaken' HB2.out (Nat.le_trans HG.out (Nat.le_of_lt HL.out))) HG.out (.int .i64 (nu + 1)))
  have HFm3 := Aside0.mk (Fm.set (c := c) (Fm.of_below HB2.out) 4 (.int .i64 (nu + 1)))
  clear HC2 HO2 HB2 HX2 HR2 c4 f4 HC1 HO1 HB1 HF
  generalize w2.setCell ⟨c, 4, none⟩ (.int .i64 (nu + 1)) = w3 at HX3 HO3 HR3 HB3 HFm3 ⊢
  refine wp_region_held_drew (S := fun w' => Aside0 ((∃ v, w'.heap[c]? = some (.cells #[.int .i64 id, .int .i64 e, .slice A ch.length cc, .int .i64 ep, .int .i64 (nu + 1), v] 68 (0, 0))) ∧ w'.heap[W.heap.size]? = some (.cells #[.int .i64 1, .string key, .string val, .int .i64 0] 32 (0, 0)))) (by kernel_rfl) ⟨⟨_, blk_drew HX3.out⟩, blk_drew HO3.out⟩ (fun hHeld => ?_)
  refine wpAnyH_take (i := 0) (oi := Oper.mk _ _ _ _ _ _) (v := ?v0) rfl (by kernel_rfl) (by kernel_rfl) (by kernel_rfl) (fun _ _ _ h => h) (Or.inl ⟨by rfl, ?hy0⟩) (by assumption) ?r0
  case hy0 => (intro w hSw; clear hSw; go_simp; (try with_reducible rfl))
  try simp only [Act.put, List.setIfInBounds_toArray, List.set_cons_zero, List.set_cons_succ]
  refine wpAnyH_take (i := 1) (oi := Oper.mk _ _ _ _ _ _) (v := ?v1) rfl (by kernel_rfl) (by kernel_rfl) (by kernel_rfl) (fun _ _ _ h => h) (Or.inl ⟨by rfl, ?hy1⟩) (by assumption) ?r1
  case hy1 => (intro w hSw; clear hSw; go_simp; (try with_reducible rfl))
  try simp only [Act.put, List.setIfInBounds_toArray, List.set_cons_zero, List.set_cons_succ]
  refine wpAnyH_take (i := 2) (oi := Oper.mk _ _ _ _ _ _) (v := ?v2) rfl (by kernel_rfl) (by kernel_rfl) (by kernel_rfl) (fun _ _ _ h => h) (Or.inl ⟨by rfl, ?hy2⟩) (by assumption) ?r2
  case hy2 => (intro w hSw; clear hSw; go_simp; (try with_reducible rfl))
  try simp only [Act.put, List.setIfInBounds_toArray, List.set_cons_zero, List.set_cons_succ]
  refine wpAnyH_take (i := 3) (oi := Oper.mk _ _ _ _ _ _) (v := ?v3) rfl (by kernel_rfl) (by kernel_rfl) (by kernel_rfl) (fun _ _ _ h => h) (Or.inl ⟨by rfl, ?hy3⟩) (by assumption) ?r3
  case hy3 => (intro w hSw; clear hSw; go_simp; (try with_reducible rfl))
  try simp only [Act.put, List.setIfInBounds_toArray, List.set_cons_zero, List.set_cons_succ]
  refine wpAnyH_take (i := 4) (oi := Oper.mk _ _ _ _ _ _) (v := ?v4) rfl (by kernel_rfl) (by kernel_rfl) (by kernel_rfl) (fun _ _ _ h => h) (Or.inl ⟨by rfl, ?hy4⟩) (by assumption) ?r4
  case hy4 => (intro w hSw; obtain ⟨⟨v, hv⟩, ho⟩ := hSw.out; (have g0 : w.cell? ⟨c, 0, none⟩ = some (.int .i64 id) := blk_cell hv 0); (have g4 : w.cell? ⟨c, 4, none⟩ = some (.int .i64 (nu + 1)) := blk_cell hv 4); (have o0 : w.cell? ⟨W.heap.size, 0, none⟩ = some (.int .i64 1) := blk_cell ho 0); (have o1 : w.cell? ⟨W.heap.size, 1, none⟩ = some (.string key) := blk_cell ho 1); (have o2 : w.cell? ⟨W.heap.size, 2, none⟩ = some (.string val) := blk_cell ho 2); (have o3 : w.cell? ⟨W.heap.size, 3, none⟩ = some (.int .i64 0) := blk_cell ho 3); clear hSw hv ho; go_simp; (try with_reducible rfl))
  try simp only [Act.put, List.setIfInBounds_toArray, List.set_cons_zero, List.set_cons_succ]
  refine wpAnyH_take (i := 5) (oi := Oper.mk _ _ _ _ _ _) (v := ?v5) rfl (by kernel_rfl) (by kernel_rfl) (by kernel_rfl) (fun _ _ _ h => h) (Or.inl ⟨by rfl, ?hy5⟩) (by assumption) ?r5
  case hy5 => (intro w hSw; clear hSw; go_simp; (try with_reducible rfl))
  try simp only [Act.put, List.setIfInBounds_toArray, List.set_cons_zero, List.set_cons_succ]
  refine wpAnyH_take (i := 6) (oi := Oper.mk _ _ _ _ _ _) (v := ?v6) rfl (by kernel_rfl) (by kernel_rfl) (by kernel_rfl) (fun _ _ _ h => h) (Or.inl ⟨by rfl, ?hy6⟩) (by assumption) ?r6
  case hy6 => (intro w hSw; clear hSw; go_simp; (try with_reducible rfl))
  try simp only [Act.put, List.setIfInBounds_toArray, List.set_cons_zero, List.set_cons_succ]
  refine wpAnyH_take (i := 7) (oi := Oper.mk _ _ _ _ _ _) (v := ?v7) rfl (by kernel_rfl) (by kernel_rfl) (by kernel_rfl) (fun _ _ _ h => h) (Or.inl ⟨by rfl, ?hy7⟩) (by assumption) ?r7
  case hy7 => (intro w hSw; clear hSw; go_simp; (try with_reducible rfl))
  try simp only [Act.put, List.setIfInBounds_toArray, List.set_cons_zero, List.set_cons_succ]
  refine wpAnyH_take (i := 8) (oi := Oper.mk _ _ _ _ _ _) (v := ?v8) rfl (by kernel_rfl) (by kernel_rfl) (by kernel_rfl) (fun _ _ _ h => h) (Or.inl ⟨by rfl, ?hy8⟩) (by assumption) ?r8
  case hy8 => (intro w hSw; obtain ⟨⟨v, hv⟩, ho⟩ := hSw.out; (have g0 : w.cell? ⟨c, 0, none⟩ = some (.int .i64 id) := blk_cell hv 0); (have g4 : w.cell? ⟨c, 4, none⟩ = some (.int .i64 (nu + 1)) := blk_cell hv 4); (have o0 : w.cell? ⟨W.heap.size, 0, none⟩ = some (.int .i64 1) := blk_cell ho 0); (have o1 : w.cell? ⟨W.heap.size, 1, none⟩ = some (.string key) := blk_cell ho 1); (have o2 : w.cell? ⟨W.heap.size, 2, none⟩ = some (.string val) := blk_cell ho 2); (have o3 : w.cell? ⟨W.heap.size, 3, none⟩ = some (.int .i64 0) := blk_cell ho 3); clear hSw hv ho; go_simp; (try with_reducible rfl))
  try simp only [Act.put, List.setIfInBounds_toArray, List.set_cons_zero, List.set_cons_succ]
  refine wpAnyH_take (i := 9) (oi := Oper.mk _ _ _ _ _ _) (v := ?v9) rfl (by kernel_rfl) (by kernel_rfl) (by kernel_rfl) (fun _ _ _ h => h) (Or.inl ⟨by rfl, ?hy9⟩) (by assumption) ?r9
  case hy9 => (intro w hSw; clear hSw; go_simp; (try with_reducible rfl))
  try simp only [Act.put, List.setIfInBounds_toArray, List.set_cons_zero, List.set_cons_succ]
  refine wpAnyH_take (i := 10) (oi := Oper.mk _ _ _ _ _ _) (v := ?v10) rfl (by kernel_rfl) (by kernel_rfl) (by kernel_rfl) (fun _ _ _ h => h) (Or.inl ⟨by rfl, ?hy10⟩) (by assumption) ?r10
  case hy10 => (intro w hSw; obtain ⟨⟨v, hv⟩, ho⟩ := hSw.out; (have g0 : w.cell? ⟨c, 0, none⟩ = some (.int .i64 id) := blk_cell hv 0); (have g4 : w.cell? ⟨c, 4, none⟩ = some (.int .i64 (nu + 1)) := blk_cell hv 4); (have o0 : w.cell? ⟨W.heap.size, 0, none⟩ = some (.int .i64 1) := blk_cell ho 0); (have o1 : w.cell? ⟨W.heap.size, 1, none⟩ = some (.string key) := blk_cell ho 1); (have o2 : w.cell? ⟨W.heap.size, 2, none⟩ = some (.string val) := blk_cell ho 2); (have o3 : w.cell? ⟨W.heap.size, 3, none⟩ = some (.int .i64 0) := blk_cell ho 3); clear hSw hv ho; go_simp; (try with_reducible rfl))
  try simp only [Act.put, List.setIfInBounds_toArray, List.set_cons_zero, List.set_cons_succ]
  refine wpAnyH_take (i := 11) (oi := Oper.mk _ _ _ _ _ _) (v := ?v11) rfl (by kernel_rfl) (by kernel_rfl) (by kernel_rfl) (fun _ _ _ h => h) (Or.inl ⟨by rfl, ?hy11⟩) (by assumption) ?r11
  case hy11 => (intro w hSw; obtain ⟨⟨v, hv⟩, ho⟩ := hSw.out; (have g0 : w.cell? ⟨c, 0, none⟩ = some (.int .i64 id) := blk_cell hv 0); (have g4 : w.cell? ⟨c, 4, none⟩ = some (.int .i64 (nu + 1)) := blk_cell hv 4); (have o0 : w.cell? ⟨W.heap.size, 0, none⟩ = some (.int .i64 1) := blk_cell ho 0); (have o1 : w.cell? ⟨W.heap.size, 1, none⟩ = some (.string key) := blk_cell ho 1); (have o2 : w.cell? ⟨W.heap.size, 2, none⟩ = some (.string val) := blk_cell ho 2); (have o3 : w.cell? ⟨W.heap.size, 3, none⟩ = some (.int .i64 0) := blk_cell ho 3); clear hSw hv ho; go_simp; (try with_reducible rfl))
  try simp only [Act.put, List.setIfInBounds_toArray, List.set_cons_zero, List.set_cons_succ]
  refine wpAnyH_take (i := 12) (oi := Oper.mk _ _ _ _ _ _) (v := ?v12) rfl (by kernel_rfl) (by kernel_rfl) (by kernel_rfl) (fun _ _ _ h => h) (Or.inl ⟨by rfl, ?hy12⟩) (by assumption) ?r12
  case hy12 => (intro w hSw; clear hSw; go_simp; (try with_reducible rfl))
  try simp only [Act.put, List.setIfInBounds_toArray, List.set_cons_zero, List.set_cons_succ]
  refine wpAnyH_take (i := 13) (oi := Oper.mk _ _ _ _ _ _) (v := ?v13) rfl (by kernel_rfl) (by kernel_rfl) (by kernel_rfl) (fun _ _ _ h => h) (Or.inl ⟨by rfl, ?hy13⟩) (by assumption) ?r13
  case hy13 => (intro w hSw; clear hSw; go_simp; (try with_reducible rfl))
  try simp only [Act.put, List.setIfInBounds_toArray, List.set_cons_zero, List.set_cons_succ]
  refine wpAnyH_ready (rs := [14]) (by kernel_rfl) (by simp) ?_
  refine AllReadyH.cons (o := Oper.mk _ _ _ _ _ _) rfl (fun K hK => ?_) AllReadyH.nil
  go_simp
  refine hK.out _ _ ?hS14 (fun hHeld => ?r14)
  case hS14 => exact ⟨⟨_, blk_alloc (blk_drew HX3.out) _⟩, blk_alloc (blk_drew HO3.out) _⟩
  clear hK K
  try simp only [Act.put, List.setIfInBounds_toArray, List.set_cons_zero, List.set_cons_succ]
  have HX4 := Aside0.mk (show (w3.alloc (.cells #[.int .i64 id, .int .i64 (nu + 1), .bool false, .string key, .int .i64 1, .string key, .string val, .int .i64 0, .int .i64 0, .int .i64 (-1), .int .i64 0, .int .i64 0, .string ⟨#[]⟩, .string ⟨#[]⟩, .int .i64 0, .bool false, .int .i64 0, .bool false] 147)).drew.heap[c]? = some (.cells #[.int .i64 id, .int .i64 e, .slice A ch.length cc, .int .i64 ep, .int .i64 (nu + 1), .pointer none] 68 (0, 0)) from blk_alloc (blk_drew HX3.out) _)
  have HO4 := Aside0.mk (show (w3.alloc (.cells #[.int .i64 id, .int .i64 (nu + 1), .bool false, .string key, .int .i64 1, .string key, .string val, .int .i64 0, .int .i64 0, .int .i64 (-1), .int .i64 0, .int .i64 0, .string ⟨#[]⟩, .string ⟨#[]⟩, .int .i64 0, .bool false, .int .i64 0, .bool false] 147)).drew.heap[W.heap.size]? = some (.cells #[.int .i64 1, .string key, .string val, .int .i64 0] 32 (0, 0)) from blk_alloc (blk_drew HO3.out) _)
  have HQ4 := Aside0.mk (show (w3.alloc (.cells #[.int .i64 id, .int .i64 (nu + 1), .bool false, .string key, .int .i64 1, .string key, .string val, .int .i64 0, .int .i64 0, .int .i64 (-1), .int .i64 0, .int .i64 0, .string ⟨#[]⟩, .string ⟨#[]⟩, .int .i64 0, .bool false, .int .i64 0, .bool false] 147)).drew.heap[w3.heap.size]? = some (.cells (updRq id (nu + 1) 1 key val 0).cells 147 (0, 0)) from blk_new w3.drew _)
  have hq3 : Below base w3 (w3.alloc (.cells #[.int .i64 id, .int .i64 (nu + 1), .bool false, .string key, .int .i64 1, .string key, .string val, .int .i64 0, .int .i64 0, .int .i64 (-1), .int .i64 0, .int .i64 0, .string ⟨#[]⟩, .string ⟨#[]⟩, .int .i64 0, .bool false, .int .i64 0, .bool false] 147)).drew := below_weaken' (below_drew (below_alloc (Below.refl _ _) _)) (Nat.le_trans (Nat.le_trans HG.out (Nat.le_of_lt HL.out)) HB3.out.size)
  have HB4 := Aside0.mk (HB3.out.trans hq3)
  have HR4 := Aside0.mk (R_below HR3.out (below_drew (below_alloc (Below.refl _ _) (.cells #[.int .i64 id, .int .i64 (nu + 1), .bool false, .string key, .int .i64 1, .string key, .string val, .int .i64 0, .int .i64 0, .int .i64 (-1), .int .i64 0, .int .i64 0, .string ⟨#[]⟩, .string ⟨#[]⟩, .int .i64 0, .bool false, .int .i64 0, .bool false] 147))))
  have HL3 := Aside0.mk (blk_lt HX3.out)
  have HS3 := Aside0.mk (Nat.le_trans (Nat.le_trans HG.out (Nat.le_of_lt HL.out)) HB3.out.size)
  have HFm4 := Aside0.mk (HFm3.out.below (below_drew (below_alloc (Below.refl _ _) (.cells #[.int .i64 id, .int .i64 (nu + 1), .bool false, .string key, .int .i64 1, .string key, .string val, .int .i64 0, .int .i64 0, .int .i64 (-1), .int .i64 0, .int .i64 0, .string ⟨#[]⟩, .string ⟨#[]⟩, .int .i64 0, .bool false, .int .i64 0, .bool false] 147))))
  clear HFm3
  clear hq3 HX3 HO3 HR3 HB3
  generalize (w3.alloc (.cells #[.int .i64 id, .int .i64 (nu + 1), .bool false, .string key, .int .i64 1, .string key, .string val, .int .i64 0, .int .i64 0, .int .i64 (-1), .int .i64 0, .int .i64 0, .string ⟨#[]⟩, .string ⟨#[]⟩, .int .i64 0, .bool false, .int .i64 0, .bool false] 147)).drew = w4 at HX4 HO4 HQ4 HB4 HR4 HFm4 hHeld ⊢
  generalize w3.heap.size = qb at HQ4 HL3 HS3 ⊢
  have g5 : w4.cell? ⟨c, 5, none⟩ = some (.pointer none) := blk_cell HX4.out 5
  have f5 : w4.frozen? ⟨c, 5, none⟩ = false := blk_frozen HX4.out 5
  refine wpAnyH_take (i := 15) (oi := Oper.mk _ _ _ _ _ _) (v := ?v15) rfl (by kernel_rfl) (by kernel_rfl) (by kernel_rfl) (fun _ _ _ h => h) (Or.inl ⟨by rfl, ?hy15⟩) (by assumption) ?r15
  case hy15 => (intro w hSw; clear hSw; go_simp; (try with_reducible rfl))
  try simp only [Act.put, List.setIfInBounds_toArray, List.set_cons_zero, List.set_cons_succ]
  refine wpAnyH_take (i := 16) (oi := Oper.mk _ _ _ _ _ _) (v := ?v16) rfl (by kernel_rfl) (by kernel_rfl) (by kernel_rfl) (fun _ _ _ h => h) (Or.inl ⟨by rfl, ?hy16⟩) (by assumption) ?r16
  case hy16 => (intro w hSw; clear hSw; go_simp; (try with_reducible rfl))
  try simp only [Act.put, List.setIfInBounds_toArray, List.set_cons_zero, List.set_cons_succ]
  refine wpAnyH_ready (rs := [17]) (by kernel_rfl) (by simp) ?_
  refine AllReadyH.cons (o := Oper.mk _ _ _ _ _ _) rfl (fun K hK => ?_) AllReadyH.nil
  go_simp
  refine hK.out _ _ ?hS17 (fun hHeld => ?r17)
  case hS17 => exact ⟨⟨_, blk_set HX4.out 5 _⟩, blk_far HO4.out (Nat.ne_of_gt HL.out) _⟩
  clear hK K
  try simp only [Act.put, List.setIfInBounds_toArray, List.set_cons_zero, List.set_cons_succ]
  refine wpAnyH_done (by kernel_rfl) ?_ _
  have HX5 := Aside0.mk (show (w4.setCell ⟨c, 5, none⟩ (.pointer (some ⟨qb, 0, none⟩))).heap[c]? = some (.cells #[.int .i64 id, .int .i64 e, .slice A ch.length cc, .int .i64 ep, .int .i64 (nu + 1), .pointer (some ⟨qb, 0, none⟩)] 68 (0, 0)) from blk_set HX4.out 5 _)
  have HQ5 := Aside0.mk (show (w4.setCell ⟨c, 5, none⟩ (.pointer (some ⟨qb, 0, none⟩))).heap[qb]? = some (.cells (updRq id (nu + 1) 1 key val 0).cells 147 (0, 0)) from blk_far HQ4.out (Nat.ne_of_gt HL3.out) _)
  have HR5 := Aside0.mk (R_setc HR4.out HX4.out 5 (.pointer (some ⟨qb, 0, none⟩)))
  have HB5 := Aside0.mk (Below.setCell (p := ⟨c, 5, none⟩) HB4.out HG.out (.pointer (some ⟨qb, 0, none⟩)))
  have HFm5 := Aside0.mk (HFm4.out.set 5 (.pointer (some ⟨qb, 0, none⟩)))
  clear HFm4
  clear hHeld HX4 HO4 HQ4 HB4 HR4 g5 f5
  generalize w4.setCell ⟨c, 5, none⟩ (.pointer (some ⟨qb, 0, none⟩)) = w5 at HX5 HQ5 HR5 HB5 HFm5 ⊢
  have HC5 := Aside0.mk (show Cl w5 base c id e ch ep (nu + 1) (some ⟨qb, 0, none⟩) from ⟨⟨A, cc, HX5.out, HR5.out⟩, HG.out⟩)
  have HGL := Aside0.mk (Nat.le_trans HG.out (Nat.le_of_lt HL.out))
  have HCr := Aside0.mk (Kd.R_reads' HR5.out).2.2
  have HCc := Aside0.mk (Kd.R_reads' HR5.out).2.1
  have HU70 := Aside0.mk Tryz.underlying70
  have c1 : w5.cell? ⟨c, 1, none⟩ = some (.int .i64 e) := blk_cell HX5.out 1
  have c2 : w5.cell? ⟨c, 2, none⟩ = some (.slice A ch.length cc) := blk_cell HX5.out 2
  go_wp2_with (first | (go_at_call 68; refine (config_Head.calls _ _ _ _ to_ _ HCr.out HCc.out HH.out).mono ?_; rintro r w6 ⟨rfl, hb⟩; (have HFm6 := Aside0.mk (HFm5.out.below hb)); (have HC6 := Aside0.mk (HC5.out.below hb)); (have HQ6 := Aside0.mk (blk_below HQ5.out hb)); (have HB6 := Aside0.mk (HB5.out.trans (below_weaken' hb (Nat.le_trans HGL.out HB5.out.size)))); clear hb) | (go_at_call 67; refine (out_calls HC6.out HQ6.out hi h16 rfl _).mono ?_; rintro r w7 ⟨rfl, hb⟩; (have HFm7 := Aside0.mk (HFm6.out.below hb)); (have HC7 := Aside0.mk (HC6.out.below hb)); (have HQ7 := Aside0.mk (blk_below HQ6.out hb)); (have HB7 := Aside0.mk (HB6.out.trans (below_weaken' hb (Nat.le_trans HGL.out HB6.out.size)))); clear hb) | ((with_reducible refine Great.wpList_buildSliceTo rfl 70 49 1 _ rfl w7.heap.size rfl (some 46) rfl HU70.out (outMsg id to_ (updRq id (nu + 1) 1 key val 0)).cells ?hf ?_); (case hf => exact builtMsg _ _ rfl)) | go_in)
  go_ret2
  exact ⟨_, qb, rfl, blk_new _ _, HC7.out.below (below_alloc (Below.refl _ _) _), blk_alloc HQ7.out _, Nat.le_trans HGL.out HB7.out.size, HS3.out, HB7.out.alloc (Nat.le_trans HGL.out HB7.out.size) _, HFm7.out.below (below_alloc (Below.refl _ _) _)⟩
theorem submit_calls {W : World} {base c : Nat} {id e ep nu : Int} {ch : List Int} (h : Cl W base c id e ch ep nu none) (hi : 1 ≤ id) (h16 : id ≤ 16) (hn0 : 0 ≤ nu) (hn : nu < 1152921504606846976) (key val : ByteArray) (hd : delta_isUser.f key = some true ∧ (val.size : Int) ≤ 65536) (to_ : Int) (hh : config_Head.f e ch = some to_) :
    Calls Tryz.prog 27 #[.pointer (some ⟨c, 0, none⟩), .agg #[.int .i64 1, .string key, .string val, .int .i64 0]] W fun r w => ∃ g q, r = .returned (.tuple #[.slice (some ⟨g, 0, none⟩) 1 1, .int .i64 0]) ∧ w.heap[g]? = some (.cells (outMsg id to_ (updRq id (nu + 1) 1 key val 0)).cells 49 (0, 0)) ∧ Cl w base c id e ch ep (nu + 1) (some ⟨q, 0, none⟩) ∧ w.heap[q]? = some (.cells (updRq id (nu + 1) 1 key val 0).cells 147 (0, 0)) ∧ base ≤ g ∧ base ≤ q ∧ Below base W w :=
  (submit_fm h hi h16 hn0 hn key val hd to_ hh).mono fun r w ⟨g, q, a1, a2, a3, a4, a5, a6, a7, _⟩ => ⟨g, q, a1, a2, a3, a4, a5, a6, a7⟩
end Cli

end Go.Proofs.YtepkaaplhcbkbaaGreat.G
