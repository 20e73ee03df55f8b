import Derived.Test.YtepkaaplhcbkbaaGreatT15
import Derived.Test.YtepkaaplhcbkbaaGreatHx1
import Derived.Test.YtepkaaplhcbkbaaGreatHx3
import Derived.Test.YtepkaaplhcbkbaaGreatGx4
import Derived.Test.YtepkaaplhcbkbaaGreatGx6
import Derived.Deep.Upon
import Derived.Deep.QuietTactic
import Derived.BigQuiet
import Derived.Deep.RegionHeld3
import Derived.Deep.DeepCutAuto
import Derived.Deep.CutBlock
import Derived.Laws.EntriesVeiled
import Derived.StillTailTactics
import Derived.Laws.Tables
import Derived.Laws.CopyOwn
import Derived.Great.Walk
import Derived.Great.BuildSlice
import Derived.Deep.MidRow
import Derived.IntWalk
import Derived.Test.YtepkaaplhcbkbaaGreatBlocks
import Derived.Laws.CopyOwn
import Derived.Laws.Tables
import Derived.Outline
namespace Go.Proofs.YtepkaaplhcbkbaaGreat.G
open Go.RowKit Go.Proofs.YtepkaaplhcbkbaaGreatW.PrintWords Go.Proofs.YtepkaaplhcbkbaaGreatW.PrintLast Go.Proofs.YtepkaaplhcbkbaaGreatW.PrintMore
set_option linter.unusedVariables false
set_option linter.unusedSimpArgs false
namespace Cli
open Msg Go.Proofs.YtepkaaplhcbkbaaGreat.H
set_option maxRecDepth 100000
theorem new_bad1 (W : World) (id : Int) (u : Array Value) (h : id < 1 ∨ 16 < id) :
    Calls Tryz.prog 36 #[.int .i64 id, .agg u] W fun r w => r = .returned (.tuple #[.pointer none, .int .i64 1]) ∧ Below W.heap.size W w := by
  by_cases h1 : id < 1
  · have b1 : decide (id < 1) = true := decide_eq_true h1
    go_enter Tryz.func36, Tryz.ntmps36
    go_wp2
    go_ret2
    exact ⟨rfl, below_alloc (Below.refl _ _) _⟩
  · have b1 : decide (id < 1) = false := decide_eq_false h1
    have b2 : decide (16 < id) = true := decide_eq_true (by omega)
    go_enter Tryz.func36, Tryz.ntmps36
    go_wp2
    go_ret2
    exact ⟨rfl, below_alloc (Below.refl _ _) _⟩
theorem new_bad2 (W : World) (id e : Int) (A : Option Addr) (c : Nat) (l : List Int) (h1 : 1 ≤ id) (h16 : id ≤ 16) (hr : Kd.C (Kd.int .i64) W A l.length l) (hc : l.length ≤ c) (er : Int) (hk : config_Check.f e l = some er) (he : er ≠ 0) :
    Calls Tryz.prog 36 #[.int .i64 id, .agg #[.int .i64 e, .slice A l.length c]] W fun r w => r = .returned (.tuple #[.pointer none, .int .i64 er]) ∧ Below W.heap.size W w := by
  have b1 : decide (id < 1) = false := decide_eq_false (by omega)
  have b2 : decide (16 < id) = false := decide_eq_false (by omega)
  have be : (er == 0) = false := by simpa using he
  have be' : (er != 0) = true := by simpa using he
  have HB := Aside0.mk (below_alloc (Below.refl W.heap.size W) (.cells #[.int .i64 e, .slice A l.length c] 41))
  have HR := Aside0.mk (Kd.C_alloc hr (.cells #[.int .i64 e, .slice A l.length c] 41))
  have HC := Aside0.mk hc
  have HK := Aside0.mk hk
  clear hr hc hk h1 h16 he
  go_enter Tryz.func36, Tryz.ntmps36
  go_wp2_with (first | (go_at_call 74; refine (config_Check.calls _ _ _ _ er _ HR.out HC.out HK.out).mono ?_; rintro r w1 ⟨rfl, hb⟩; (have HB1 := Aside0.mk (HB.out.trans (below_weaken' hb HB.out.size))); clear hb) | go_in)
  go_ret2
  exact ⟨rfl, HB1.out⟩
theorem results_cells2 {P : Program} {fn : Func} {p s : Tmp} {ty : TypeId} (h : fn.results = #[.cell p ty, .tmp s]) (tmps : Array Value) (w : World) (g : Nat) (t : TypeId) (cs : Array Value) (fr : Nat × Nat) (d : TypeDesc)
    (hp : tmps.getD p undef = .pointer (some ⟨g, 0, none⟩)) (hg : w.heap[g]? = some (.cells cs t fr))
    (hu : P.underlying ty = some d) (hd : (match d with | .struct _ | .array _ _ => true | _ => false) = true) (hi : (P.info? ty).map (·.size) = some cs.size) :
    (results fn tmps).run P w = .ok (.tuple #[.agg cs, tmps.getD s undef]) w := by
  have hp' : tmps[p]?.getD undef = .pointer (some ⟨g, 0, none⟩) := by simpa using hp
  simp [results, h, hp', asAddr, run_loadVar_row w g t ty cs fr d hg hu hd hi]
theorem last0_calls {W : World} {base c : Nat} {id e ep nu : Int} {ch : List Int} (h : Cl W base c id e ch ep nu none) (hi : 1 ≤ id) : Calls Tryz.prog 30 #[.pointer (some ⟨c, 0, none⟩)] W fun r w => r = .returned (.tuple #[.agg zero16, .bool false]) ∧ Below W.heap.size W w := by
  have hn := h.below (below_alloc (Below.refl _ _) (.cells zero16 77))
  have HI := Aside0.mk (fun w (hw : w = W.alloc (.cells zero16 77)) => is_calls (hw ▸ hn : Cl w base c id e ch ep nu none) hi)
  obtain ⟨A, cc, hb, ho⟩ := hn.out
  have h5 : (W.alloc (.cells zero16 77)).cell? ⟨c, 5, none⟩ = some (.pointer none) := blk_cell hb 5
  have h5' := h5
  unfold zero16 at h5'
  have HZ := Aside0.mk (blk_new W (.cells zero16 77))
  have HIC : Aside0 ((Tryz.prog.info? 77).map (·.size) = some 16) := ⟨by kernel_rfl⟩
  have HU := Aside0.mk Tryz.underlying77
  clear h hn hb ho
  go_enter Tryz.func30, Tryz.ntmps30
  go_wp2_with (first | (go_at_call 70; refine (HI.out _ rfl).mono ?_; rintro r w1 ⟨rfl, hw⟩; subst hw) | ((with_reducible refine wpList_store_row rfl 77 (.tmp 2) (.tmp 14) rfl W.heap.size zero16 ?d1 ?d2 77 zero16 ?c1 ?c2 ?c3 ?c4 ?_); (case d1 => rfl); (case d2 => rfl); (case c1 => exact HZ.out); (case c2 => exact HIC.out); (case c3 => rfl); (case c4 => kernel_rfl)) | fail)
  refine bodyPost_ret (results_cells2 (P := Tryz.prog) rfl _ _ W.heap.size 77 zero16 (0, 0) _ rfl (setRow_heap _ _ _ _ 77 (0, 0) HZ.out) HU.out rfl HIC.out) rfl ?_
  exact ⟨rfl, below_setRow (below_alloc (Below.refl _ _) _) (Nat.le_refl _) _⟩
theorem epoch_calls {W : World} {base c : Nat} {id e ep nu : Int} {ch : List Int} {last : Option Addr} (h : Cl W base c id e ch ep nu last) (hi : 1 ≤ id) : Calls Tryz.prog 33 #[.pointer (some ⟨c, 0, none⟩)] W fun r w => r = .returned (.int .i64 ep) ∧ w = W := by
  have HI := Aside0.mk (fun w (hw : w = W) => is_calls (hw ▸ h : Cl w base c id e ch ep nu last) hi)
  obtain ⟨A, cc, hb, ho⟩ := h.out
  have h3 : W.cell? ⟨c, 3, none⟩ = some (.int .i64 ep) := blk_cell hb 3
  clear h hb ho
  go_enter Tryz.func33, Tryz.ntmps33
  go_wp2_with (first | (go_at_call 70; refine (HI.out _ rfl).mono ?_; rintro r w1 ⟨rfl, hw⟩; subst hw) | fail)
  go_ret
  exact ⟨rfl, rfl⟩
theorem config_calls {W : World} {base c : Nat} {id e ep nu : Int} {ch : List Int} {last : Option Addr} (h : Cl W base c id e ch ep nu last) (hi : 1 ≤ id) (hl : ch.length ≤ 1099511627776) : Calls Tryz.prog 34 #[.pointer (some ⟨c, 0, none⟩)] W fun r w => ∃ A cc, r = .returned (.agg #[.int .i64 e, .slice A ch.length cc]) ∧ Kd.R (Kd.int .i64) 3 w W.heap.size (fun _ => True) (.slice A ch.length cc) ch ∧ Below W.heap.size W w := by
  have hn := h.below (below_alloc (Below.refl _ _) (.cells #[.int .i64 0, .slice none 0 0] 41))
  have HI := Aside0.mk (fun w (hw : w = W.alloc (.cells #[.int .i64 0, .slice none 0 0] 41)) => is_calls (hw ▸ hn : Cl w base c id e ch ep nu last) hi)
  obtain ⟨A, cc, hb, ho⟩ := hn.out
  have h1 : (W.alloc (.cells #[.int .i64 0, .slice none 0 0] 41)).cell? ⟨c, 1, none⟩ = some (.int .i64 e) := blk_cell hb 1
  have h2 : (W.alloc (.cells #[.int .i64 0, .slice none 0 0] 41)).cell? ⟨c, 2, none⟩ = some (.slice A ch.length cc) := blk_cell hb 2
  have HR := Aside0.mk (Kd.R_reads' ho).2
  have HZ := Aside0.mk (blk_new W (.cells #[.int .i64 0, .slice none 0 0] 41))
  have HIC : Aside0 ((Tryz.prog.info? 41).map (·.size) = some 2) := ⟨by kernel_rfl⟩
  have HU := Aside0.mk Tryz.underlying41
  have HO := Aside0.mk (own_f e ch hl)
  clear h hn hb ho
  go_enter Tryz.func34, Tryz.ntmps34
  go_wp2_with (first | (go_at_call 70; refine (HI.out _ rfl).mono ?_; rintro r w1 ⟨rfl, hw⟩; subst hw) | (go_at_call 71; refine (client_own.calls e A cc ch e ch _ HR.out.2 HR.out.1 HO.out).mono ?_; rintro r w2 ⟨v1, rfl, ho, hb⟩; obtain ⟨A2, cc2, rfl⟩ := Kd.R_slice ho; (have HO2 := Aside0.mk ho); (have HB2 := Aside0.mk hb); (have HZ2 := Aside0.mk (blk_below HZ.out hb)); clear ho hb) | ((with_reducible refine wpList_store_row rfl 41 (.tmp 2) (.tmp 11) rfl W.heap.size #[.int .i64 e, .slice A2 ch.length cc2] ?d1 ?d2 41 #[.int .i64 0, .slice none 0 0] ?c1 ?c2 ?c3 ?c4 ?_); (case d1 => rfl); (case d2 => rfl); (case c1 => exact HZ2.out); (case c2 => exact HIC.out); (case c3 => rfl); (case c4 => kernel_rfl)) | fail)
  refine bodyPost_ret (results_cell1 (P := Tryz.prog) rfl _ _ W.heap.size 41 #[.int .i64 e, .slice A2 ch.length cc2] (0, 0) _ rfl (setRow_heap _ _ _ _ 41 (0, 0) HZ2.out) HU.out rfl HIC.out) rfl ?_
  have hB := (below_alloc (Below.refl W.heap.size W) (.cells #[.int .i64 0, .slice none 0 0] 41)).trans (below_weaken' HB2.out (by rw [World.size_alloc]; omega))
  refine ⟨A2, cc2, rfl, ?_, below_setRow hB (Nat.le_refl _) _⟩
  have hg : w2.grownBy (w2.setRow W.heap.size #[.int .i64 e, .slice A2 ch.length cc2]) (some W.heap.size) := ⟨rfl, rfl, rfl, by simp [World.setRow], fun k _ hn => setRow_other w2 W.heap.size k _ (fun h => hn (by rw [h]))⟩
  exact Kd.R_lower (Kd.R_of_own (World.ownsRow.kept (Kd.own_of_R HO2.out) hg (.inr (own_ne (Kd.own_of_R HO2.out) HZ2.out (by decide)).symm)) (fun _ _ => trivial)) (by rw [World.size_alloc]; omega)
/-- A client of the document's that has asked nothing. -/
def refCells (id e : Int) (A : Option Addr) (n c : Nat) : Array Value := #[.int .i64 id, .int .i64 e, .slice A n c, .int .i64 e, .int .i64 0, .bool false, .int .i64 0, .int .i64 0, .int .i64 0, .bool false, .string ⟨#[]⟩, .int .i64 0, .string ⟨#[]⟩, .string ⟨#[]⟩, .int .i64 0, .int .i64 0, .int .i64 0, .int .i64 0, .int .i64 0, .string ⟨#[]⟩, .string ⟨#[]⟩, .int .i64 0, .bool false, .bool false]
theorem rnew_bad1 (W : World) (id : Int) (u : Array Value) (h : id < 1 ∨ 16 < id) :
    Calls Tryz.prog 39 #[.int .i64 id, .agg u] W fun r w => r = .returned (.tuple #[.pointer none, .int .i64 1]) ∧ Below W.heap.size W w := by
  by_cases h1 : id < 1
  · have b1 : decide (id < 1) = true := decide_eq_true h1
    go_enter Tryz.func39, Tryz.ntmps39
    go_wp2
    go_ret2
    exact ⟨rfl, below_alloc (Below.refl _ _) _⟩
  · have b1 : decide (id < 1) = false := decide_eq_false h1
    have b2 : decide (16 < id) = true := decide_eq_true (by omega)
    go_enter Tryz.func39, Tryz.ntmps39
    go_wp2
    go_ret2
    exact ⟨rfl, below_alloc (Below.refl _ _) _⟩
theorem rnew_bad2 (k : Nat) (W : World) (id e : Int) (A : Option Addr) (c : Nat) (l : List Int) (h1 : 1 ≤ id) (h16 : id ≤ 16) (hr : Kd.C (Kd.int .i64) W A l.length l) (hc : l.length ≤ c) (er : Int) (hk : hawserref21_CheckConfig.f k e l = some er) (he : er ≠ 0) :
    Calls Tryz.prog 39 #[.int .i64 id, .agg #[.int .i64 e, .slice A l.length c]] W fun r w => r = .returned (.tuple #[.pointer none, .int .i64 er]) ∧ Below W.heap.size W w := by
  have b1 : decide (id < 1) = false := decide_eq_false (by omega)
  have b2 : decide (16 < id) = false := decide_eq_false (by omega)
  have be : (er == 0) = false := by simpa using he
  have be' : (er != 0) = true := by simpa using he
  have HB := Aside0.mk (below_alloc (Below.refl W.heap.size W) (.cells #[.int .i64 e, .slice A l.length c] 41))
  have HR := Aside0.mk (Kd.C_alloc hr (.cells #[.int .i64 e, .slice A l.length c] 41))
  have HC := Aside0.mk hc
  have HK := Aside0.mk hk
  clear hr hc hk h1 h16 he
  go_enter Tryz.func39, Tryz.ntmps39
  go_wp2_with (first | (go_at_call 38; refine (hawserref21_CheckConfig.calls k _ _ _ _ er _ HR.out HC.out HK.out).mono ?_; rintro r w1 ⟨rfl, hb⟩; (have HB1 := Aside0.mk (HB.out.trans (below_weaken' hb HB.out.size))); clear hb) | go_in)
  go_ret2
  exact ⟨rfl, HB1.out⟩
end Cli

namespace Cli
open Msg Go.Proofs.YtepkaaplhcbkbaaGreat.H Go.Proofs.YtepkaaplhcbkbaaGreat.Blocks
set_option maxRecDepth 100000
theorem nums_app (k : IntKind) (a b : List Int) : nums k (a ++ b) = nums k a ++ nums k b := by simp [nums]
theorem info_int : (Tryz.prog.info? 3).map (fun i => (i.zero, i.size, i.bytes)) = some (some (.int .i64 0), 1, 8) := by kernel_rfl
theorem own_sli {W : World} {base : Nat} {u : Value} {n : Nat} {z : List Value} (h : W.ownsRow base 3 1 u n z) : ∃ A c, u = .slice A n c ∧ n ≤ c := by
  rcases h.2 with ⟨h, h0⟩ | ⟨g, cap, cur, h, _, _, h1, _⟩
  · exact ⟨none, 0, by rw [h, h0], by omega⟩
  · exact ⟨_, _, h, h1⟩
theorem run_appI {W : World} {base : Nat} {u : Value} {xs ys : List Int} (ho : W.ownsRow base 3 1 u xs.length (nums .i64 xs)) {A : Option Addr} {c : Nat} (hC : Kd.C (Kd.int .i64) W A ys.length ys) (t ty : TypeId) (ht : Tryz.prog.underlying t = some (.slice 3))
    (hl : xs.length + ys.length ≤ 1099511627776) (hb : base ≤ W.heap.size) :
    ∃ v' w', (Builtin.append_ #[t, t] ty #[u, .slice A ys.length c]).run Tryz.prog W = .ok v' w' ∧ w'.ownsRow base 3 1 v' (xs ++ ys).length (nums .i64 (xs ++ ys)) ∧ W.grownBy w' u.ownBlock ∧ (v'.ownBlock = u.ownBlock ∨ v'.ownBlock = some W.heap.size) := by
  obtain ⟨i0, hi, hzz⟩ := Option.map_eq_some_iff.1 info_int
  simp only [Prod.mk.injEq] at hzz
  obtain ⟨hz0, hz1, hz2⟩ := hzz
  by_cases hm : ys = []
  · subst hm
    obtain ⟨Au, cu, rfl, hcu⟩ := own_sli ho
    have hsrc : Src Tryz.prog i0.size t (.slice A 0 c) 0 [] W := by
      cases A with
      | none => exact Src.ofNil W ht c
      | some a => exact Src.ofSlice W ht a 0 c [] (by simp) (by simp) (by simp)
    refine ⟨_, _, run_append_nothing W t t ty 3 i0 ht hi _ _ _ hcu _ hsrc, ?_, ⟨rfl, rfl, rfl, Nat.le_refl _, fun k _ _ => rfl⟩, .inl rfl⟩
    rw [List.append_nil]
    exact ho
  · have hp : 0 < ys.length := List.length_pos_iff.2 hm
    obtain ⟨ad, rfl, hnews⟩ := cells_of_C hC hp
    obtain ⟨v', w', hrun, hown, hg, _, hat⟩ := run_append_own_at (P := Tryz.prog) W base t ty 3 i0 (.int .i64 0) 1 8 ht hi hz0 hz1 hz2 rfl (by decide) u xs.length (nums .i64 xs) ho ad ys.length c (nums .i64 ys) (by rw [nums_length, Nat.mul_one]) hnews (nums_one _ _) (by simp only [maxLen]; omega) (by omega) hb
    refine ⟨v', w', hrun, ?_, hg, hat⟩
    rw [List.length_append, nums_app]
    exact hown
theorem oper_app {o : Oper} {a : Act} {w w' : World} {K : Act → World → Prop} {Q : Exit → Act → World → Prop} {t : TypeId} {s z : Operand} {u v v' : Value} (hop : o.op = .call { callee := .builtin .append, args := #[s, z], argTypes := #[t, t] })
    (hs : a.eval s = u) (hx : a.eval z = v) (hrun : (Builtin.append_ #[t, t] o.type #[u, v]).run Tryz.prog w = .ok v' w') (hK : K (a.put o.dst v') w') : Oper.wp Tryz.prog o a w K Q := by
  unfold Oper.wp
  simp [execOp, hop, resolve, invoke, builtin, hs, hx, hrun, Result.andThen]
  exact hK
theorem wp_append {ops : Array Oper} {rest : List Oper} {o : Oper} {a : Act} {w w' : World} {Q : Exit → Act → World → Prop} {t : TypeId} {u v v' : Value} (hgd : o.guard = none) (s z : Operand) (hop : o.op = .call { callee := .builtin .append, args := #[s, z], argTypes := #[t, t] })
    (hs : a.eval s = u) (hx : a.eval z = v) (hrun : (Builtin.append_ #[t, t] o.type #[u, v]).run Tryz.prog w = .ok v' w') (h : wpList Tryz.prog ops Q rest (a.put o.dst v') w') : wpList Tryz.prog ops Q (o :: rest) a w :=
  wpList_plain hgd fun K hK => oper_app hop hs hx hrun (hK _ _ h)
theorem rnew_calls (k : Nat) (W : World) (id e : Int) (A : Option Addr) (c : Nat) (l : List Int) (h1 : 1 ≤ id) (h16 : id ≤ 16) (hr : Kd.C (Kd.int .i64) W A l.length l) (hc : l.length ≤ c) (hl : l.length ≤ 1048576) (hk : hawserref21_CheckConfig.f k e l = some 0) :
    Calls Tryz.prog 39 #[.int .i64 id, .agg #[.int .i64 e, .slice A l.length c]] W fun r w => ∃ p A2 c2, r = .returned (.tuple #[.pointer (some ⟨p, 0, none⟩), .int .i64 0]) ∧ w.heap[p]? = some (.cells (refCells id e A2 l.length c2) 153 (0, 0)) ∧ Kd.R (Kd.int .i64) 3 w W.heap.size (fun _ => True) (.slice A2 l.length c2) l ∧ W.heap.size ≤ p ∧ Below W.heap.size W w := by
  have b1 : decide (id < 1) = false := decide_eq_false (by omega)
  have b2 : decide (16 < id) = false := decide_eq_false (by omega)
  have HB := Aside0.mk (below_alloc (Below.refl W.heap.size W) (.cells #[.int .i64 e, .slice A l.length c] 41))
  have HR := Aside0.mk (Kd.C_alloc hr (.cells #[.int .i64 e, .slice A l.length c] 41))
  have HX := Aside0.mk (blk_new W (.cells #[.int .i64 e, .slice A l.length c] 41))
  have HC := Aside0.mk hc
  have HK := Aside0.mk hk
  have HLL := Aside0.mk hl
  have HU26 := Aside0.mk Tryz.underlying26
  have HIC : Aside0 ((Tryz.prog.info? 41).map (·.size) = some 2) := ⟨by kernel_rfl⟩
  have HUC := Aside0.mk Tryz.underlying41
  clear hr hc hk h1 h16 hl
  go_enter Tryz.func39, Tryz.ntmps39
  go_upto_region 6 with (first | (go_at_call 38; refine (hawserref21_CheckConfig.calls k _ _ _ _ 0 _ HR.out HC.out HK.out).mono ?_; rintro r w1 ⟨rfl, hb⟩; (have HR1 := Aside0.mk (Kd.C_below HR.out hb)); (have HX1 := Aside0.mk (blk_below HX.out hb)); (have HB1 := Aside0.mk (HB.out.trans (below_weaken' hb HB.out.size))); clear hb) | go_in)
  have x0 : w1.cell? ⟨W.heap.size, 0, none⟩ = some (.int .i64 e) := blk_cell HX1.out 0
  have x1 : (w1.alloc (.cells #[] 3)).cell? ⟨W.heap.size, 1, none⟩ = some (.slice A l.length c) := blk_cell (blk_alloc HX1.out _) 1
  obtain ⟨v2, w2, hrun, hown, hg, hat⟩ := run_appI (W := w1.alloc (.cells #[] 3)) (base := w1.heap.size) (u := .slice (some ⟨w1.heap.size, 0, none⟩) 0 0) (xs := []) (World.ownsRow_made w1 #[] 0 (Nat.le_refl _) (by decide) rfl) (Kd.C_alloc HR1.out _) (c := c) 26 26 HU26.out (by have := HLL.out; simp; omega) (by rw [World.size_alloc]; omega)
  rw [List.nil_append] at hown
  obtain ⟨A2, c2, rfl, hc2⟩ := own_sli hown
  have hbn : (w1.alloc (.cells #[] 3)).heap.size = w1.heap.size + 1 := World.size_alloc _ _
  have hlt := blk_lt HX1.out
  have HX2 := Aside0.mk (blk_grown (blk_alloc HX1.out (.cells #[] 3)) hg (fun h => by have hh : W.heap.size = w1.heap.size := Option.some.inj h; omega))
  have HO2 := Aside0.mk hown
  have HB2 := Aside0.mk ((below_alloc HB1.out (.cells #[] 3)).grown hg (below_alloc HB1.out _).size (fun k hk => by have := Option.some.inj hk; rw [← this]; exact HB1.out.size))
  have y1 : w2.cell? ⟨W.heap.size, 1, none⟩ = some (.slice A l.length c) := blk_cell HX2.out 1
  have f1 : w2.frozen? ⟨W.heap.size, 1, none⟩ = false := blk_frozen HX2.out 1
  have HRUN := Aside0.mk hrun
  clear hrun hown hg hat hc2 hlt
  go_upto_region 7 with (first | (at_builtin; refine wp_append (t := 26) rfl (.tmp 18) (.tmp 20) rfl rfl rfl HRUN.out ?_) | fail)
  have HX3 := Aside0.mk (blk_put HX2.out 1 (.slice A2 l.length c2) (cs' := #[.int .i64 e, .slice A2 l.length c2]) rfl)
  have HB3 := Aside0.mk (HB2.out.setCell (Nat.le_refl _) (.slice A2 l.length c2) (p := ⟨W.heap.size, 1, none⟩))
  have z0 : (w2.setCell ⟨W.heap.size, 1, none⟩ (.slice A2 l.length c2)).cell? ⟨W.heap.size, 0, none⟩ = some (.int .i64 e) := blk_cell HX3.out 0
  go_wp2_with (first | ((with_reducible refine wpList_load_row rfl 41 (.tmp 3) rfl W.heap.size ?_ 41 #[.int .i64 e, .slice A2 l.length c2] (0, 0) _ HX3.out HUC.out ?_ ?_ ?_); (· rfl); (· rfl); (· exact HIC.out)) | fail)
  go_ret2
  have hw2 : w2.heap.size = (w2.setCell ⟨W.heap.size, 1, none⟩ (.slice A2 l.length c2)).heap.size := by rw [World.size_setCell]
  refine ⟨w2.heap.size, A2, c2, rfl, ?_, ?_, ?_, ?_⟩
  · rw [hw2]; exact blk_new _ _
  · have hg : w2.grownBy ((w2.setCell ⟨W.heap.size, 1, none⟩ (.slice A2 l.length c2)).alloc (.cells (refCells id e A2 l.length c2) 153 (0, 0))) (some W.heap.size) := ⟨rfl, rfl, rfl, by rw [World.size_alloc, World.size_setCell]; omega, fun k hk hn => by
      rw [Below.heap_alloc _ _ _ (by rw [World.size_setCell]; exact hk), Below.heap_setCell _ _ _ _ (fun h => hn (by rw [h]))]⟩
    exact Kd.R_lower (Kd.R_of_own (World.ownsRow.kept HO2.out hg (.inr (own_ne HO2.out HX2.out (by decide)).symm)) (fun _ _ => trivial)) HB1.out.size
  · have := HB2.out.size; omega
  · exact below_alloc HB3.out _
end Cli

namespace Cli
open Msg Go.Proofs.YtepkaaplhcbkbaaGreat.H Go.Proofs.YtepkaaplhcbkbaaGreat.Blocks
set_option maxRecDepth 100000
theorem R_row {W W' : World} {base : Nat} {v : Value} {xs : List Int} {row : Option Nat} (h : Kd.R (Kd.int .i64) 3 W base (fun _ => True) v xs) (hg : W.grownBy W' row) (hn : ∀ g, row = some g → v.ownBlock ≠ some g) : Kd.R (Kd.int .i64) 3 W' base (fun _ => True) v xs := by
  refine Kd.R_of_own ?_ (fun _ _ => trivial)
  refine World.ownsRow.kept (Kd.own_of_R h) hg ?_
  cases e : v.ownBlock with
  | none => exact .inl rfl
  | some g => exact .inr (fun he => hn g he.symm e)
/-- Where 'looked' stands: the two configurations that were told, each with a chain of its own. -/
structure Lk (W w : World) (g7 g8 : Nat) (A7 A8 : Option Addr) (c7 c8 : Nat) (cur ch : List Int) (e : Int) : Prop where
  b7 : w.heap[g7]? = some (.cells #[.int .i64 e, .slice A7 cur.length c7] 41 (0, 0))
  r7 : Kd.R (Kd.int .i64) 3 w W.heap.size (fun _ => True) (.slice A7 cur.length c7) cur
  b8 : w.heap[g8]? = some (.cells #[.int .i64 e, .slice A8 ch.length c8] 41 (0, 0))
  r8 : Kd.R (Kd.int .i64) 3 w W.heap.size (fun _ => True) (.slice A8 ch.length c8) ch
  ap : ∀ g, (Value.slice A7 cur.length c7).ownBlock = some g → (Value.slice A8 ch.length c8).ownBlock ≠ some g
  ne : g7 ≠ g8 ∧ W.heap.size ≤ g7
  bel : Below W.heap.size W w
theorem Lk.below {W w w' : World} {g7 g8 : Nat} {A7 A8 : Option Addr} {c7 c8 : Nat} {cur ch : List Int} {e : Int} (h : Lk W w g7 g8 A7 A8 c7 c8 cur ch e) (hB : Below w.heap.size w w') : Lk W w' g7 g8 A7 A8 c7 c8 cur ch e :=
  ⟨blk_below h.b7 hB, R_below h.r7 hB, blk_below h.b8 hB, R_below h.r8 hB, h.ap, h.ne, h.bel.trans (below_weaken' hB h.bel.size)⟩
/-- A number of the spoilt chain is written. -/
theorem Lk.put {W w : World} {g7 g8 go : Nat} {A8 : Option Addr} {c7 c8 : Nat} {cur ch : List Int} {e : Int} (h : Lk W w g7 g8 (some ⟨go, 0, none⟩) A8 c7 c8 cur ch e) (i : Nat) (x : Int) (hlt : i < cur.length) : Lk W (w.setCell ⟨go, i, none⟩ (.int .i64 x)) g7 g8 (some ⟨go, 0, none⟩) A8 c7 c8 (cur.set i x) ch e := by
  have hP := Kd.R_putg h.r7 (i : Int) x
  rw [Int.toNat_natCast] at hP
  obtain ⟨hr, hg⟩ := hP
  have hob : (Value.slice (some ⟨go, 0, none⟩) cur.length c7).ownBlock = some go := rfl
  have hlen : (cur.set i x).length = cur.length := List.length_set
  have p1 := h.ap go hob
  refine ⟨?_, ?_, blk_grown h.b8 hg (Kd.R_ne h.r7 h.b8 (by decide)), R_row h.r8 hg (fun g hg' => by cases hg'; exact p1), ?_, h.ne, ?_⟩
  · rw [hlen]; exact blk_grown h.b7 hg (Kd.R_ne h.r7 h.b7 (by decide))
  · rw [hlen]; exact hr
  · rw [hlen]; exact h.ap
  · exact h.bel.setCell (World.ownsRow.lt (Kd.own_of_R h.r7) go hob).1 _
/-- Where 'looked' stands behind the spoiling. -/
structure Ll (W w : World) (g8 : Nat) (A8 : Option Addr) (c8 : Nat) (ch : List Int) (e : Int) : Prop where
  b8 : w.heap[g8]? = some (.cells #[.int .i64 e, .slice A8 ch.length c8] 41 (0, 0))
  r8 : Kd.R (Kd.int .i64) 3 w W.heap.size (fun _ => True) (.slice A8 ch.length c8) ch
  bel : Below W.heap.size W w
theorem Ll.below {W w w' : World} {g8 : Nat} {A8 : Option Addr} {c8 : Nat} {ch : List Int} {e : Int} (h : Ll W w g8 A8 c8 ch e) (hB : Below w.heap.size w w') : Ll W w' g8 A8 c8 ch e :=
  ⟨blk_below h.b8 hB, R_below h.r8 hB, h.bel.trans (below_weaken' hB h.bel.size)⟩
theorem Lk.grow {W w w7 : World} {g7 g8 : Nat} {A7 A8 : Option Addr} {c7 c8 : Nat} {cur ch : List Int} {e : Int} (h : Lk W w g7 g8 A7 A8 c7 c8 cur ch e) {o : Obj} (hg : (w.alloc o).grownBy w7 (Value.slice A7 cur.length c7).ownBlock) (v : Value) :
    w7.heap[g7]? = some (.cells #[.int .i64 e, .slice A7 cur.length c7] 41 (0, 0)) ∧ Ll W (w7.setCell ⟨g7, 1, none⟩ v) g8 A8 c8 ch e := by
  have h0 := h.below (below_alloc (Below.refl _ _) o)
  have b7 := blk_grown h0.b7 hg (Kd.R_ne h.r7 h.b7 (by decide))
  have b8 := blk_grown h0.b8 hg (Kd.R_ne h.r7 h.b8 (by decide))
  have r8 := R_row h0.r8 hg (fun g hg' => h.ap g hg')
  have hbel : Below W.heap.size W w7 := h0.bel.grown hg h0.bel.size (fun k hk => (World.ownsRow.lt (Kd.own_of_R h.r7) k hk).1)
  have hg7 : w7.grownBy (w7.setCell ⟨g7, 1, none⟩ v) (some g7) := ⟨rfl, rfl, rfl, by rw [World.size_setCell]; omega, fun k _ hn => Below.heap_setCell _ _ _ _ (fun h => hn (by rw [h]))⟩
  exact ⟨b7, ⟨blk_far b8 (fun he => h.ne.1 he.symm) v, R_row r8 hg7 (fun g hg' hh => by cases hg'; exact own_ne (Kd.own_of_R r8) b7 (by decide) |>.symm (by rw [hh])), hbel.setCell h.ne.2 v⟩⟩
theorem neq_calls (w : World) : (binOp .neq 77 (.agg #[.int .i64 0, .int .i64 0, .bool false, .string ⟨#[]⟩, .int .i64 0, .string ⟨#[]⟩, .string ⟨#[]⟩, .int .i64 0, .int .i64 0, .int .i64 0, .int .i64 0, .int .i64 0, .string ⟨#[]⟩, .string ⟨#[]⟩, .int .i64 0, .bool false]) (.agg #[.int .i64 0, .int .i64 0, .bool false, .string ⟨#[]⟩, .int .i64 0, .string ⟨#[]⟩, .string ⟨#[]⟩, .int .i64 0, .int .i64 0, .int .i64 0, .int .i64 0, .int .i64 0, .string ⟨#[]⟩, .string ⟨#[]⟩, .int .i64 0, .bool false])).run Tryz.prog w = .ok (.bool false) w := by kernel_rfl
set_option maxHeartbeats 8000000 in
theorem looked_calls {W : World} {base c x : Nat} {id e : Int} {ch : List Int} {A2 : Option Addr} {c2 : Nat} (h : Cl W base c id e ch e 0 none) (hi : 1 ≤ id) (hx : W.heap[x]? = some (.cells (refCells id e A2 ch.length c2) 153 (0, 0))) (hC : Kd.C (Kd.int .i64) W A2 ch.length ch) (hc : ch.length ≤ c2) (hl : ch.length ≤ 1048576) (k : Nat) (hs : hawserlaw23_sameConfig.f k e ch e ch = some true) :
    Calls Tryz.prog 40 #[.pointer (some ⟨c, 0, none⟩), .pointer (some ⟨x, 0, none⟩)] W fun r w => r = .returned (.bool true) ∧ Below W.heap.size W w := by
  have HCL := Aside0.mk h
  have HX := Aside0.mk hx
  have HC := Aside0.mk hC
  have HCC := Aside0.mk hc
  have HS := Aside0.mk hs
  have HL := Aside0.mk (show ch.length ≤ 1099511627776 by omega)
  have HU77 := Aside0.mk Tryz.underlying77
  have HI16 : Aside0 ((Tryz.prog.info? 77).map (·.size) = some 16) := ⟨by kernel_rfl⟩
  have HU41 := Aside0.mk Tryz.underlying41
  have HI41 : Aside0 ((Tryz.prog.info? 41).map (·.size) = some 2) := ⟨by kernel_rfl⟩
  have HU26 := Aside0.mk Tryz.underlying26
  clear h hx hC hc hs
  go_enter Tryz.func40, Tryz.ntmps40
  go_upto_region 2 with (first
    | (go_at_call 30; refine (last0_calls HCL.out hi).mono ?_; rintro r w1 ⟨rfl, hB⟩; (have HB1 := Aside0.mk hB); clear hB)
    | ((with_reducible refine wpList_store_row rfl 77 (.tmp 5) (.tmp 13) rfl w1.heap.size zero16 ?d1 ?d2 77 zero16 ?c1 ?c2 ?c3 ?c4 ?_); (case d1 => rfl); (case d2 => rfl); (case c1 => exact blk_new w1 _); (case c2 => exact HI16.out); (case c3 => rfl); (case c4 => kernel_rfl))
    | fail)
  have K5 := Aside0.mk (setRow_heap (w1.alloc (.cells zero16 77)) w1.heap.size zero16 zero16 77 (0, 0) (blk_new w1 _))
  have HB5 := Aside0.mk (HB1.out.trans (below_weaken' (below_setRow (below_alloc (Below.refl w1.heap.size w1) (.cells zero16 77)) (Nat.le_refl _) zero16) HB1.out.size))
  unfold zero16 at K5 HB5 ⊢
  generalize (w1.alloc _).setRow w1.heap.size _ = y1 at K5 HB5 ⊢
  generalize w1.heap.size = g5 at K5 ⊢
  clear HB1
  go_upto_region 3 with (first
    | (go_at_call 34; have t_ := R7; clear t_; refine (config_calls (HCL.out.below (HB7.out)) hi HL.out).mono ?_; rintro r w3 ⟨A8, c8, rfl, hr, hB⟩; (have R8 := Aside0.mk hr); (have HB8 := Aside0.mk hB); clear hr hB)
    | (go_at_call 34; refine (config_calls (HCL.out.below HB5.out) hi HL.out).mono ?_; rintro r w2 ⟨A7, c7, rfl, hr, hB⟩; (have R7 := Aside0.mk hr); (have HB7 := Aside0.mk (HB5.out.trans (below_weaken' hB HB5.out.size))); (have HB72 := Aside0.mk hB); clear hr hB)
    | ((with_reducible refine wpList_store_row rfl 41 (.tmp 7) (.tmp 16) rfl w3.heap.size #[.int .i64 e, .slice A7 ch.length c7] ?d1 ?d2 41 #[.int .i64 0, .slice none 0 0] ?c1 ?c2 ?c3 ?c4 ?_); (case d1 => rfl); (case d2 => rfl); (case c1 => exact blk_alloc (blk_new w3 _) _); (case c2 => exact HI41.out); (case c3 => rfl); (case c4 => kernel_rfl))
    | ((with_reducible refine wpList_store_row rfl 41 (.tmp 8) (.tmp 18) rfl (w3.heap.size + 1) #[.int .i64 e, .slice A8 ch.length c8] ?d1 ?d2 41 #[.int .i64 0, .slice none 0 0] ?c1 ?c2 ?c3 ?c4 ?_); (case d1 => rfl); (case d2 => rfl); (case c1 => exact (setRow_other _ _ _ _ (by omega)).trans (by rw [show w3.heap.size + 1 = (w3.alloc (.cells #[.int .i64 0, .slice none 0 0] 41)).heap.size from (World.size_alloc _ _).symm]; exact blk_new _ _)); (case c2 => exact HI41.out); (case c3 => rfl); (case c4 => kernel_rfl))
    | fail)
  have h1 : (w3.alloc (.cells #[.int .i64 0, .slice none 0 0] 41)).heap.size = w3.heap.size + 1 := World.size_alloc _ _
  have e7 := blk_alloc (blk_new w3 (.cells #[.int .i64 0, .slice none 0 0] 41)) (.cells #[.int .i64 0, .slice none 0 0] 41)
  have e7' := setRow_heap _ w3.heap.size _ #[.int .i64 e, .slice A7 ch.length c7] 41 (0, 0) e7
  have e8 := blk_new (w3.alloc (.cells #[.int .i64 0, .slice none 0 0] 41)) (.cells #[.int .i64 0, .slice none 0 0] 41)
  rw [h1] at e8
  have e8' := (setRow_other _ w3.heap.size (w3.heap.size + 1) #[.int .i64 e, .slice A7 ch.length c7] (by omega)).trans e8
  have HBy := Aside0.mk (below_setRow (below_setRow (below_alloc (below_alloc (Below.refl w3.heap.size w3) (.cells #[.int .i64 0, .slice none 0 0] 41)) (.cells #[.int .i64 0, .slice none 0 0] 41)) (Nat.le_refl _) #[.int .i64 e, .slice A7 ch.length c7]) (Nat.le_succ _) #[.int .i64 e, .slice A8 ch.length c8])
  have hby := HB8.out.trans (below_weaken' HBy.out HB8.out.size)
  have HO7 := Aside0.mk (show ∀ g, (Value.slice A7 ch.length c7).ownBlock = some g → g < w2.heap.size from fun g hg => (World.ownsRow.lt (Kd.own_of_R R7.out) g hg).2)
  have HO8 := Aside0.mk (show ∀ g, (Value.slice A8 ch.length c8).ownBlock = some g → w2.heap.size ≤ g from fun g hg => (World.ownsRow.lt (Kd.own_of_R R8.out) g hg).1)
  have Y3 := Aside0.mk (show Lk W _ w3.heap.size (w3.heap.size + 1) A7 A8 c7 c8 ch ch e from ⟨(setRow_other _ (w3.heap.size + 1) w3.heap.size #[.int .i64 e, .slice A8 ch.length c8] (by omega)).trans e7', Kd.R_lower (R_below R7.out hby) HB5.out.size, setRow_heap _ (w3.heap.size + 1) _ #[.int .i64 e, .slice A8 ch.length c8] 41 (0, 0) e8', Kd.R_lower (R_below R8.out HBy.out) HB7.out.size, fun g hg h => by have h1 := HO7.out g hg; have h2 := HO8.out g h; omega, ⟨by omega, Nat.le_trans HB7.out.size HB8.out.size⟩, HB7.out.trans (below_weaken' hby HB7.out.size)⟩)
  have K3 := Aside0.mk (blk_below (blk_below K5.out HB72.out) hby)
  clear h1 e7 e7' e8 e8' hby K5 HB5 HB7 HB72 R7 R8 HO7 HO8 HB8 HBy
  generalize ((((w3.alloc _).alloc _).setRow _ _).setRow _ _) = y3 at Y3 K3 ⊢
  generalize w3.heap.size + 1 = g8 at Y3 ⊢
  generalize w3.heap.size = g7 at Y3 ⊢
  have X3 := Aside0.mk (blk_below HX.out Y3.out.bel)
  have qg50y3 : y3.cell? ⟨g5, 0, none⟩ = some (.int .i64 0) := blk_cell K3.out 0
  have qg51y3 : y3.cell? ⟨g5, 1, none⟩ = some (.int .i64 0) := blk_cell K3.out 1
  have qg52y3 : y3.cell? ⟨g5, 2, none⟩ = some (.bool false) := blk_cell K3.out 2
  have qg53y3 : y3.cell? ⟨g5, 3, none⟩ = some (.string ⟨#[]⟩) := blk_cell K3.out 3
  have qg54y3 : y3.cell? ⟨g5, 4, none⟩ = some (.int .i64 0) := blk_cell K3.out 4
  have qg55y3 : y3.cell? ⟨g5, 5, none⟩ = some (.string ⟨#[]⟩) := blk_cell K3.out 5
  have qg56y3 : y3.cell? ⟨g5, 6, none⟩ = some (.string ⟨#[]⟩) := blk_cell K3.out 6
  have qg57y3 : y3.cell? ⟨g5, 7, none⟩ = some (.int .i64 0) := blk_cell K3.out 7
  have qg58y3 : y3.cell? ⟨g5, 8, none⟩ = some (.int .i64 0) := blk_cell K3.out 8
  have qg59y3 : y3.cell? ⟨g5, 9, none⟩ = some (.int .i64 0) := blk_cell K3.out 9
  have qg510y3 : y3.cell? ⟨g5, 10, none⟩ = some (.int .i64 0) := blk_cell K3.out 10
  have qg511y3 : y3.cell? ⟨g5, 11, none⟩ = some (.int .i64 0) := blk_cell K3.out 11
  have qg512y3 : y3.cell? ⟨g5, 12, none⟩ = some (.string ⟨#[]⟩) := blk_cell K3.out 12
  have qg513y3 : y3.cell? ⟨g5, 13, none⟩ = some (.string ⟨#[]⟩) := blk_cell K3.out 13
  have qg514y3 : y3.cell? ⟨g5, 14, none⟩ = some (.int .i64 0) := blk_cell K3.out 14
  have qg515y3 : y3.cell? ⟨g5, 15, none⟩ = some (.bool false) := blk_cell K3.out 15
  have qx7y3 : y3.cell? ⟨x, 7, none⟩ = some (.int .i64 0) := blk_cell X3.out 7
  have qx8y3 : y3.cell? ⟨x, 8, none⟩ = some (.int .i64 0) := blk_cell X3.out 8
  have qx9y3 : y3.cell? ⟨x, 9, none⟩ = some (.bool false) := blk_cell X3.out 9
  have qx10y3 : y3.cell? ⟨x, 10, none⟩ = some (.string ⟨#[]⟩) := blk_cell X3.out 10
  have qx11y3 : y3.cell? ⟨x, 11, none⟩ = some (.int .i64 0) := blk_cell X3.out 11
  have qx12y3 : y3.cell? ⟨x, 12, none⟩ = some (.string ⟨#[]⟩) := blk_cell X3.out 12
  have qx13y3 : y3.cell? ⟨x, 13, none⟩ = some (.string ⟨#[]⟩) := blk_cell X3.out 13
  have qx14y3 : y3.cell? ⟨x, 14, none⟩ = some (.int .i64 0) := blk_cell X3.out 14
  have qx15y3 : y3.cell? ⟨x, 15, none⟩ = some (.int .i64 0) := blk_cell X3.out 15
  have qx16y3 : y3.cell? ⟨x, 16, none⟩ = some (.int .i64 0) := blk_cell X3.out 16
  have qx17y3 : y3.cell? ⟨x, 17, none⟩ = some (.int .i64 0) := blk_cell X3.out 17
  have qx18y3 : y3.cell? ⟨x, 18, none⟩ = some (.int .i64 0) := blk_cell X3.out 18
  have qx19y3 : y3.cell? ⟨x, 19, none⟩ = some (.string ⟨#[]⟩) := blk_cell X3.out 19
  have qx20y3 : y3.cell? ⟨x, 20, none⟩ = some (.string ⟨#[]⟩) := blk_cell X3.out 20
  have qx21y3 : y3.cell? ⟨x, 21, none⟩ = some (.int .i64 0) := blk_cell X3.out 21
  have qx22y3 : y3.cell? ⟨x, 22, none⟩ = some (.bool false) := blk_cell X3.out 22
  have qx23y3 : y3.cell? ⟨x, 23, none⟩ = some (.bool false) := blk_cell X3.out 23
  have qx1y3 : y3.cell? ⟨x, 1, none⟩ = some (.int .i64 e) := blk_cell X3.out 1
  have qx2y3 : y3.cell? ⟨x, 2, none⟩ = some (.slice A2 ch.length c2) := blk_cell X3.out 2
  have qx3y3 : y3.cell? ⟨x, 3, none⟩ = some (.int .i64 e) := blk_cell X3.out 3
  have qx5y3 : y3.cell? ⟨x, 5, none⟩ = some (.bool false) := blk_cell X3.out 5
  have qg70y3 : y3.cell? ⟨g7, 0, none⟩ = some (.int .i64 e) := blk_cell Y3.out.b7 0
  have qg71y3 : y3.cell? ⟨g7, 1, none⟩ = some (.slice A7 ch.length c7) := blk_cell Y3.out.b7 1
  have hneq := fun w => neq_calls w
  go_region_held3 (fun w' => w'.cell? ⟨g5, 0, none⟩ = some (.int .i64 0) ∧ w'.cell? ⟨g5, 1, none⟩ = some (.int .i64 0) ∧ w'.cell? ⟨g5, 2, none⟩ = some (.bool false) ∧ w'.cell? ⟨g5, 3, none⟩ = some (.string ⟨#[]⟩) ∧ w'.cell? ⟨g5, 4, none⟩ = some (.int .i64 0) ∧ w'.cell? ⟨g5, 5, none⟩ = some (.string ⟨#[]⟩) ∧ w'.cell? ⟨g5, 6, none⟩ = some (.string ⟨#[]⟩) ∧ w'.cell? ⟨g5, 7, none⟩ = some (.int .i64 0) ∧ w'.cell? ⟨g5, 8, none⟩ = some (.int .i64 0) ∧ w'.cell? ⟨g5, 9, none⟩ = some (.int .i64 0) ∧ w'.cell? ⟨g5, 10, none⟩ = some (.int .i64 0) ∧ w'.cell? ⟨g5, 11, none⟩ = some (.int .i64 0) ∧ w'.cell? ⟨g5, 12, none⟩ = some (.string ⟨#[]⟩) ∧ w'.cell? ⟨g5, 13, none⟩ = some (.string ⟨#[]⟩) ∧ w'.cell? ⟨g5, 14, none⟩ = some (.int .i64 0) ∧ w'.cell? ⟨g5, 15, none⟩ = some (.bool false) ∧ w'.cell? ⟨x, 7, none⟩ = some (.int .i64 0) ∧ w'.cell? ⟨x, 8, none⟩ = some (.int .i64 0) ∧ w'.cell? ⟨x, 9, none⟩ = some (.bool false) ∧ w'.cell? ⟨x, 10, none⟩ = some (.string ⟨#[]⟩) ∧ w'.cell? ⟨x, 11, none⟩ = some (.int .i64 0) ∧ w'.cell? ⟨x, 12, none⟩ = some (.string ⟨#[]⟩) ∧ w'.cell? ⟨x, 13, none⟩ = some (.string ⟨#[]⟩) ∧ w'.cell? ⟨x, 14, none⟩ = some (.int .i64 0) ∧ w'.cell? ⟨x, 15, none⟩ = some (.int .i64 0) ∧ w'.cell? ⟨x, 16, none⟩ = some (.int .i64 0) ∧ w'.cell? ⟨x, 17, none⟩ = some (.int .i64 0) ∧ w'.cell? ⟨x, 18, none⟩ = some (.int .i64 0) ∧ w'.cell? ⟨x, 19, none⟩ = some (.string ⟨#[]⟩) ∧ w'.cell? ⟨x, 20, none⟩ = some (.string ⟨#[]⟩) ∧ w'.cell? ⟨x, 21, none⟩ = some (.int .i64 0) ∧ w'.cell? ⟨x, 22, none⟩ = some (.bool false) ∧ w'.cell? ⟨x, 23, none⟩ = some (.bool false) ∧ w'.cell? ⟨x, 1, none⟩ = some (.int .i64 e) ∧ w'.cell? ⟨x, 2, none⟩ = some (.slice A2 ch.length c2) ∧ w'.cell? ⟨x, 3, none⟩ = some (.int .i64 e) ∧ w'.cell? ⟨x, 5, none⟩ = some (.bool false) ∧ w'.cell? ⟨g7, 0, none⟩ = some (.int .i64 e) ∧ w'.cell? ⟨g7, 1, none⟩ = some (.slice A7 ch.length c7)) (go_keep) (first
    | (go_at_call 75; refine (hawserlaw23_sameConfig.calls k e A7 c7 ch e A2 c2 ch true _ (Kd.R_reads' ((Y3.out.below (Drawn0.below ⟨1, rfl⟩))).r7).2.2 (Kd.R_reads' ((Y3.out.below (Drawn0.below ⟨1, rfl⟩))).r7).2.1 (Kd.C_below HC.out (Y3.out.below (Drawn0.below ⟨1, rfl⟩)).bel) HCC.out HS.out).mono ?_; rintro r u1 ⟨rfl, hB⟩; (have Yu := Aside0.mk (Y3.out.below (Drawn0.below ⟨1, rfl⟩))); (have Ku := Aside0.mk (blk_below K3.out (Drawn0.below ⟨1, rfl⟩))); (have Xu := Aside0.mk (blk_below X3.out (Drawn0.below ⟨1, rfl⟩))); (have Ku1 := Aside0.mk (blk_below Ku.out hB)); (have Xu1 := Aside0.mk (blk_below Xu.out hB)); (have Yu1 := Aside0.mk (Yu.out.below hB)); clear hB Yu Ku Xu; (have qg50u1 : u1.cell? ⟨g5, 0, none⟩ = some (.int .i64 0) := blk_cell Ku1.out 0); (have qg51u1 : u1.cell? ⟨g5, 1, none⟩ = some (.int .i64 0) := blk_cell Ku1.out 1); (have qg52u1 : u1.cell? ⟨g5, 2, none⟩ = some (.bool false) := blk_cell Ku1.out 2); (have qg53u1 : u1.cell? ⟨g5, 3, none⟩ = some (.string ⟨#[]⟩) := blk_cell Ku1.out 3); (have qg54u1 : u1.cell? ⟨g5, 4, none⟩ = some (.int .i64 0) := blk_cell Ku1.out 4); (have qg55u1 : u1.cell? ⟨g5, 5, none⟩ = some (.string ⟨#[]⟩) := blk_cell Ku1.out 5); (have qg56u1 : u1.cell? ⟨g5, 6, none⟩ = some (.string ⟨#[]⟩) := blk_cell Ku1.out 6); (have qg57u1 : u1.cell? ⟨g5, 7, none⟩ = some (.int .i64 0) := blk_cell Ku1.out 7); (have qg58u1 : u1.cell? ⟨g5, 8, none⟩ = some (.int .i64 0) := blk_cell Ku1.out 8); (have qg59u1 : u1.cell? ⟨g5, 9, none⟩ = some (.int .i64 0) := blk_cell Ku1.out 9); (have qg510u1 : u1.cell? ⟨g5, 10, none⟩ = some (.int .i64 0) := blk_cell Ku1.out 10); (have qg511u1 : u1.cell? ⟨g5, 11, none⟩ = some (.int .i64 0) := blk_cell Ku1.out 11); (have qg512u1 : u1.cell? ⟨g5, 12, none⟩ = some (.string ⟨#[]⟩) := blk_cell Ku1.out 12); (have qg513u1 : u1.cell? ⟨g5, 13, none⟩ = some (.string ⟨#[]⟩) := blk_cell Ku1.out 13); (have qg514u1 : u1.cell? ⟨g5, 14, none⟩ = some (.int .i64 0) := blk_cell Ku1.out 14); (have qg515u1 : u1.cell? ⟨g5, 15, none⟩ = some (.bool false) := blk_cell Ku1.out 15); (have qx7u1 : u1.cell? ⟨x, 7, none⟩ = some (.int .i64 0) := blk_cell Xu1.out 7); (have qx8u1 : u1.cell? ⟨x, 8, none⟩ = some (.int .i64 0) := blk_cell Xu1.out 8); (have qx9u1 : u1.cell? ⟨x, 9, none⟩ = some (.bool false) := blk_cell Xu1.out 9); (have qx10u1 : u1.cell? ⟨x, 10, none⟩ = some (.string ⟨#[]⟩) := blk_cell Xu1.out 10); (have qx11u1 : u1.cell? ⟨x, 11, none⟩ = some (.int .i64 0) := blk_cell Xu1.out 11); (have qx12u1 : u1.cell? ⟨x, 12, none⟩ = some (.string ⟨#[]⟩) := blk_cell Xu1.out 12); (have qx13u1 : u1.cell? ⟨x, 13, none⟩ = some (.string ⟨#[]⟩) := blk_cell Xu1.out 13); (have qx14u1 : u1.cell? ⟨x, 14, none⟩ = some (.int .i64 0) := blk_cell Xu1.out 14); (have qx15u1 : u1.cell? ⟨x, 15, none⟩ = some (.int .i64 0) := blk_cell Xu1.out 15); (have qx16u1 : u1.cell? ⟨x, 16, none⟩ = some (.int .i64 0) := blk_cell Xu1.out 16); (have qx17u1 : u1.cell? ⟨x, 17, none⟩ = some (.int .i64 0) := blk_cell Xu1.out 17); (have qx18u1 : u1.cell? ⟨x, 18, none⟩ = some (.int .i64 0) := blk_cell Xu1.out 18); (have qx19u1 : u1.cell? ⟨x, 19, none⟩ = some (.string ⟨#[]⟩) := blk_cell Xu1.out 19); (have qx20u1 : u1.cell? ⟨x, 20, none⟩ = some (.string ⟨#[]⟩) := blk_cell Xu1.out 20); (have qx21u1 : u1.cell? ⟨x, 21, none⟩ = some (.int .i64 0) := blk_cell Xu1.out 21); (have qx22u1 : u1.cell? ⟨x, 22, none⟩ = some (.bool false) := blk_cell Xu1.out 22); (have qx23u1 : u1.cell? ⟨x, 23, none⟩ = some (.bool false) := blk_cell Xu1.out 23); (have qx1u1 : u1.cell? ⟨x, 1, none⟩ = some (.int .i64 e) := blk_cell Xu1.out 1); (have qx2u1 : u1.cell? ⟨x, 2, none⟩ = some (.slice A2 ch.length c2) := blk_cell Xu1.out 2); (have qx3u1 : u1.cell? ⟨x, 3, none⟩ = some (.int .i64 e) := blk_cell Xu1.out 3); (have qx5u1 : u1.cell? ⟨x, 5, none⟩ = some (.bool false) := blk_cell Xu1.out 5); (have qg70u1 : u1.cell? ⟨g7, 0, none⟩ = some (.int .i64 e) := blk_cell Yu1.out.b7 0); (have qg71u1 : u1.cell? ⟨g7, 1, none⟩ = some (.slice A7 ch.length c7) := blk_cell Yu1.out.b7 1))
    | (go_at_call 33; refine (epoch_calls (HCL.out.below Yu1.out.bel) hi).mono ?_; rintro r u2 ⟨rfl, hw⟩; subst hw)
    | (go_at_call 32; refine (waits0_calls (HCL.out.below Yu1.out.bel) hi).mono ?_; rintro r u2 ⟨rfl, hw⟩; subst hw)
    | fail)
  go_wp2
  clear K3 X3 Y3 Ku1 Xu1
  go_loopw [63] (fun v wr => ∃ (j : Nat) (cur : List Int), v = .int .i64 j ∧ j ≤ ch.length ∧ Aside0 (cur.length = ch.length ∧ Lk W wr g7 g8 A7 A8 c7 c8 cur ch e)) (fun v _ => ch.length - (intOf v).toNat)
  case atStart => exact ⟨0, ch, rfl, by omega, ⟨rfl, Yu1.out⟩⟩
  case round =>
    obtain ⟨j, cur, rfl, hj, HP⟩ := hrel
    clear Yu1
    obtain ⟨hcl, hX⟩ := HP.out
    have HY := Aside0.mk hX
    clear HP hX
    have HCU := Aside0.mk hcl
    by_cases hlt : j < ch.length
    · obtain ⟨go, co, eo, _⟩ := Kd.R_form HY.out.r7 (by omega)
      injection eo with ea _ ec
      subst ea ec
      obtain ⟨hx, hf⟩ := Kd.R_celln 0 HY.out.r7 (j : Int) (by omega) (by omega)
      rw [Int.toNat_natCast] at hx hf
      have b1 := blk_cell HY.out.b7 1
      replace b1 : wr.cell? ⟨g7, 1, none⟩ = some (.slice (some ⟨go, 0, none⟩) cur.length c7) := b1
      have h1 : (j : Int) < (ch.length : Int) := by omega
      have h2 : (j : Int) < (cur.length : Int) := by omega
      have h3 : j < cur.length := by omega
      have hj0 : (0 : Int) ≤ (j : Int) := by omega
      have hcm : (ch.length : Int) ≤ 1048576 := by omega
      clear hcl
      go_wp2
      go_roundw
      case rel => exact ⟨j + 1, cur.set j (-1), by push_cast; rfl, by omega, ⟨by rw [List.length_set]; exact HCU.out, HY.out.put j (-1) h3⟩⟩
      case measure => simp [intOf]; omega
    · have hn : ¬ (j : Int) < (ch.length : Int) := by omega
      have b1 := blk_cell HY.out.b7 1
      replace b1 : wr.cell? ⟨g7, 1, none⟩ = some (.slice A7 cur.length c7) := b1
      have b2 := blk_frozen HY.out.b7 1
      obtain ⟨v7, w7, hrun, hown, hg, _⟩ := run_appI (W := wr.alloc (.cells #[.int .i64 (-1), .int .i64 (-1)] 3)) (ys := [-1, -1]) (c := 2) ((Kd.own_of_R HY.out.r7).alloc _) (C_of_blk (k := .i64) (L := [-1, -1]) (o := 0) (n := 2) (blk_new wr _) (by decide) (by decide)) 26 26 HU26.out (by simp; omega) (by rw [World.size_alloc]; have := HY.out.bel.size; omega)
      obtain ⟨A9, c9, rfl, _⟩ := own_sli hown
      have HG := Aside0.mk hg
      have HRUN := Aside0.mk hrun
      clear hg hrun hcl hlt hown
      generalize (cur ++ [-1, -1]).length = n9 at HRUN
      go_upto_region 11 with (first | (at_builtin; refine wp_append (t := 26) rfl (.tmp 72) (.tmp 73) rfl rfl rfl HRUN.out ?_; (have hy := HY.out.grow HG.out (.slice A9 n9 c9)); (have d1 := blk_cell hy.1 1); (have d2 := blk_frozen hy.1 1); (have HZ := Aside0.mk hy.2); clear hy) | fail)
      clear b1 b2 d1 d2 HY HG HRUN
      generalize w7.setCell _ _ = y7 at HZ ⊢
      have qx1y7 : y7.cell? ⟨x, 1, none⟩ = some (.int .i64 e) := blk_cell (blk_below HX.out HZ.out.bel) 1
      have qx2y7 : y7.cell? ⟨x, 2, none⟩ = some (.slice A2 ch.length c2) := blk_cell (blk_below HX.out HZ.out.bel) 2
      have qg80y7 : y7.cell? ⟨g8, 0, none⟩ = some (.int .i64 e) := blk_cell HZ.out.b8 0
      have qg81y7 : y7.cell? ⟨g8, 1, none⟩ = some (.slice A8 ch.length c8) := blk_cell HZ.out.b8 1
      go_region_held3 (fun w' => w'.cell? ⟨x, 1, none⟩ = some (.int .i64 e) ∧ w'.cell? ⟨x, 2, none⟩ = some (.slice A2 ch.length c2) ∧ w'.cell? ⟨g8, 0, none⟩ = some (.int .i64 e) ∧ w'.cell? ⟨g8, 1, none⟩ = some (.slice A8 ch.length c8)) (go_keep) (first
        | ((have t_ := HV; clear t_); go_at_call 75; refine (hawserlaw23_sameConfig.calls k e A4 c4 ch e A2 c2 ch true _ (Kd.R_reads' HV.out).2.2 (Kd.R_reads' HV.out).2.1 (Kd.C_below HC.out HZ2.out.bel) HCC.out HS.out).mono ?_; rintro r u3 ⟨rfl, hB⟩; (have HZ3 := Aside0.mk (HZ2.out.below hB)); clear hB; (have qx1u3 : u3.cell? ⟨x, 1, none⟩ = some (.int .i64 e) := blk_cell (blk_below HX.out HZ3.out.bel) 1); (have qx2u3 : u3.cell? ⟨x, 2, none⟩ = some (.slice A2 ch.length c2) := blk_cell (blk_below HX.out HZ3.out.bel) 2); (have qg80u3 : u3.cell? ⟨g8, 0, none⟩ = some (.int .i64 e) := blk_cell HZ3.out.b8 0); (have qg81u3 : u3.cell? ⟨g8, 1, none⟩ = some (.slice A8 ch.length c8) := blk_cell HZ3.out.b8 1))
        | ((have t_ := HZ1; clear t_); go_at_call 34; refine (config_calls (HCL.out.below HZ1.out.bel) hi HL.out).mono ?_; rintro r u2 ⟨A4, c4, rfl, hr, hB⟩; (have HV := Aside0.mk hr); (have HZ2 := Aside0.mk (HZ1.out.below hB)); clear hr hB; (have qx1u2 : u2.cell? ⟨x, 1, none⟩ = some (.int .i64 e) := blk_cell (blk_below HX.out HZ2.out.bel) 1); (have qx2u2 : u2.cell? ⟨x, 2, none⟩ = some (.slice A2 ch.length c2) := blk_cell (blk_below HX.out HZ2.out.bel) 2); (have qg80u2 : u2.cell? ⟨g8, 0, none⟩ = some (.int .i64 e) := blk_cell HZ2.out.b8 0); (have qg81u2 : u2.cell? ⟨g8, 1, none⟩ = some (.slice A8 ch.length c8) := blk_cell HZ2.out.b8 1))
        | (go_at_call 75; refine (hawserlaw23_sameConfig.calls k e A8 c8 ch e A2 c2 ch true _ (Kd.R_reads' ((HZ.out.below (Drawn0.below ⟨1, rfl⟩))).r8).2.2 (Kd.R_reads' ((HZ.out.below (Drawn0.below ⟨1, rfl⟩))).r8).2.1 (Kd.C_below HC.out (HZ.out.below (Drawn0.below ⟨1, rfl⟩)).bel) HCC.out HS.out).mono ?_; rintro r u1 ⟨rfl, hB⟩; (have HZ1 := Aside0.mk ((HZ.out.below (Drawn0.below ⟨1, rfl⟩)).below hB)); clear hB; (have qx1u1 : u1.cell? ⟨x, 1, none⟩ = some (.int .i64 e) := blk_cell (blk_below HX.out HZ1.out.bel) 1); (have qx2u1 : u1.cell? ⟨x, 2, none⟩ = some (.slice A2 ch.length c2) := blk_cell (blk_below HX.out HZ1.out.bel) 2); (have qg80u1 : u1.cell? ⟨g8, 0, none⟩ = some (.int .i64 e) := blk_cell HZ1.out.b8 0); (have qg81u1 : u1.cell? ⟨g8, 1, none⟩ = some (.slice A8 ch.length c8) := blk_cell HZ1.out.b8 1))
        | fail)
      go_wp2
      go_ret
      exact ⟨rfl, HZ3.out.bel⟩
end Cli

namespace Cli
open Msg Go.Proofs.YtepkaaplhcbkbaaGreat.H Go.Proofs.YtepkaaplhcbkbaaGreat.Blocks
set_option maxRecDepth 100000
theorem new_any (W : World) (id e : Int) (A : Option Addr) (c : Nat) (l : List Int) (hr : Kd.C (Kd.int .i64) W A l.length l) (hc : l.length ≤ c) (hl : l.length ≤ 1099511627776) (e0 er : Int) (hk : config_Check.f e l = some e0) (he : er = if id < 1 ∨ 16 < id then 1 else e0) :
    Calls Tryz.prog 36 #[.int .i64 id, .agg #[.int .i64 e, .slice A l.length c]] W fun r w => ∃ pv, r = .returned (.tuple #[.pointer pv, .int .i64 er]) ∧ Below W.heap.size W w ∧ ((er = 0 ∧ 1 ≤ id ∧ ∃ p, pv = some ⟨p, 0, none⟩ ∧ Cl w W.heap.size p id e l e 0 none) ∨ (er ≠ 0 ∧ pv = none)) := by
  by_cases h1 : id < 1 ∨ 16 < id
  · rw [if_pos h1] at he
    refine (new_bad1 W id _ h1).mono ?_
    rintro r w ⟨rfl, hB⟩
    exact ⟨none, by rw [he], hB, .inr ⟨by omega, rfl⟩⟩
  · rw [if_neg h1] at he
    subst he
    by_cases hz : er = 0
    · subst hz
      refine (new_calls W id e A c l (by omega) (by omega) hr hc hl hk).mono ?_
      rintro r w ⟨p, rfl, hC, hB⟩
      exact ⟨_, rfl, hB, .inl ⟨rfl, by omega, p, rfl, hC⟩⟩
    · refine (new_bad2 W id e A c l (by omega) (by omega) hr hc er hk hz).mono ?_
      rintro r w ⟨rfl, hB⟩
      exact ⟨none, rfl, hB, .inr ⟨hz, rfl⟩⟩
/-- The document's client that has asked nothing. -/
structure Rf (w : World) (base x : Nat) (id e : Int) (l : List Int) : Prop where
  out : ∃ A2 c2, w.heap[x]? = some (.cells (refCells id e A2 l.length c2) 153 (0, 0)) ∧ Kd.R (Kd.int .i64) 3 w base (fun _ => True) (.slice A2 l.length c2) l
  ge : base ≤ x
theorem Rf.below {w w' : World} {base x : Nat} {id e : Int} {l : List Int} (h : Rf w base x id e l) (hB : Below w.heap.size w w') : Rf w' base x id e l := by
  obtain ⟨A2, c2, hb, hr⟩ := h.out
  exact ⟨⟨A2, c2, blk_below hb hB, R_below hr hB⟩, h.ge⟩
theorem grown_set (w : World) (g i : Nat) (v : Value) : w.grownBy (w.setCell ⟨g, i, none⟩ v) (some g) :=
  ⟨rfl, rfl, rfl, by rw [World.size_setCell]; omega, fun k _ hn => Below.heap_setCell _ _ _ _ (fun h => hn (by rw [h]))⟩
theorem own_far {w : World} {base g : Nat} {v : Value} {xs : List Int} (h : Kd.R (Kd.int .i64) 3 w base (fun _ => True) v xs) (hg : g < base) : ∀ k, some g = some k → v.ownBlock ≠ some k := by
  intro k hk he
  have := (World.ownsRow.lt (Kd.own_of_R h) k he).1
  have := Option.some.inj hk
  omega
theorem Rf.set {w : World} {base x : Nat} {id e : Int} {l : List Int} (h : Rf w base x id e l) {g : Nat} (hg : g < base) (i : Nat) (v : Value) : Rf (w.setCell ⟨g, i, none⟩ v) base x id e l := by
  obtain ⟨A2, c2, hb, hr⟩ := h.out
  have := h.ge
  exact ⟨⟨A2, c2, blk_far hb (by simp; omega) v, R_row hr (grown_set w g i v) (own_far hr hg)⟩, h.ge⟩
theorem Cl.set {w : World} {base c : Nat} {id e ep nu : Int} {l : List Int} {last : Option Addr} (h : Cl w base c id e l ep nu last) {g : Nat} (hg : g < base) (i : Nat) (v : Value) : Cl (w.setCell ⟨g, i, none⟩ v) base c id e l ep nu last := by
  obtain ⟨A2, c2, hb, hr⟩ := h.out
  have := h.ge
  exact ⟨⟨A2, c2, blk_far hb (by simp; omega) v, R_row hr (grown_set w g i v) (own_far hr hg)⟩, h.ge⟩
theorem rnew_any (k : Nat) (W : World) (id e : Int) (A : Option Addr) (c : Nat) (l : List Int) (hr : Kd.C (Kd.int .i64) W A l.length l) (hc : l.length ≤ c) (hl : l.length ≤ 1048576) (e0 er : Int) (hk : hawserref21_CheckConfig.f k e l = some e0) (he : er = if id < 1 ∨ 16 < id then 1 else e0) :
    Calls Tryz.prog 39 #[.int .i64 id, .agg #[.int .i64 e, .slice A l.length c]] W fun r w => ∃ pv, r = .returned (.tuple #[.pointer pv, .int .i64 er]) ∧ Below W.heap.size W w ∧ ((er = 0 ∧ ∃ p, pv = some ⟨p, 0, none⟩ ∧ Rf w W.heap.size p id e l) ∨ (er ≠ 0 ∧ pv = none)) := by
  by_cases h1 : id < 1 ∨ 16 < id
  · rw [if_pos h1] at he
    refine (rnew_bad1 W id _ h1).mono ?_
    rintro r w ⟨rfl, hB⟩
    exact ⟨none, by rw [he], hB, .inr ⟨by omega, rfl⟩⟩
  · rw [if_neg h1] at he
    subst he
    by_cases hz : er = 0
    · subst hz
      refine (rnew_calls k W id e A c l (by omega) (by omega) hr hc hl hk).mono ?_
      rintro r w ⟨p, A2, c2, rfl, hb, hR, hp, hB⟩
      exact ⟨_, rfl, hB, .inl ⟨rfl, p, rfl, ⟨A2, c2, hb, hR⟩, hp⟩⟩
    · refine (rnew_bad2 k W id e A c l (by omega) (by omega) hr hc er hk hz).mono ?_
      rintro r w ⟨rfl, hB⟩
      exact ⟨none, rfl, hB, .inr ⟨hz, rfl⟩⟩
end Cli

namespace Cli
open Msg Go.Proofs.YtepkaaplhcbkbaaGreat.H Go.Proofs.YtepkaaplhcbkbaaGreat.Blocks
set_option maxRecDepth 100000
theorem C_front {w : World} {A : Option Addr} {l m : List Int} (h : Kd.C (Kd.int .i64) w A (l ++ m).length (l ++ m)) : Kd.C (Kd.int .i64) w A l.length l := by
  have := Kd.C_take h (m := l.length) (by simp)
  have h2 : (l ++ m).take l.length = l := by simp
  rwa [h2] at this
/-- What 'New' has told. -/
def Nw (w : World) (b : Nat) (er id e : Int) (l : List Int) (pv : Option Addr) : Prop := (er = 0 ∧ 1 ≤ id ∧ ∃ p, pv = some ⟨p, 0, none⟩ ∧ Cl w b p id e l e 0 none) ∨ (er ≠ 0 ∧ pv = none)
theorem Nw.below {w w' : World} {b : Nat} {er id e : Int} {l : List Int} {pv : Option Addr} (h : Nw w b er id e l pv) (hB : Below w.heap.size w w') : Nw w' b er id e l pv :=
  h.imp (fun ⟨a, b, p, c, d⟩ => ⟨a, b, p, c, d.below hB⟩) (fun h => h)
def Rw (w : World) (b : Nat) (er id e : Int) (l : List Int) (pv : Option Addr) : Prop := (er = 0 ∧ ∃ p, pv = some ⟨p, 0, none⟩ ∧ Rf w b p id e l) ∨ (er ≠ 0 ∧ pv = none)
theorem Nw.set {w : World} {b : Nat} {er id e : Int} {l : List Int} {pv : Option Addr} (h : Nw w b er id e l pv) {g : Nat} (hg : g < b) (i : Nat) (v : Value) : Nw (w.setCell ⟨g, i, none⟩ v) b er id e l pv :=
  h.imp (fun ⟨a, b, p, c, d⟩ => ⟨a, b, p, c, d.set hg i v⟩) (fun h => h)
theorem Rw.set {w : World} {b : Nat} {er id e : Int} {l : List Int} {pv : Option Addr} (h : Rw w b er id e l pv) {g : Nat} (hg : g < b) (i : Nat) (v : Value) : Rw (w.setCell ⟨g, i, none⟩ v) b er id e l pv :=
  h.imp (fun ⟨a, p, c, d⟩ => ⟨a, p, c, d.set hg i v⟩) (fun h => h)
/-- Where the law stands: the chain that was handed in, and what both have told. -/
structure Ln (W w : World) (gc c2 : Nat) (cur : List Int) (bn br : Nat) (er id e : Int) (l : List Int) (pv xv : Option Addr) : Prop where
  r : Kd.R (Kd.int .i64) 3 w W.heap.size (fun _ => True) (.slice (some ⟨gc, 0, none⟩) cur.length c2) cur
  n : Nw w bn er id e l pv
  x : Rw w br er id e l xv
  lt : gc < bn ∧ gc < br
  bel : Below W.heap.size W w
theorem Ln.put {W w : World} {gc c2 : Nat} {cur : List Int} {bn br : Nat} {er id e : Int} {l : List Int} {pv xv : Option Addr} (h : Ln W w gc c2 cur bn br er id e l pv xv) (i : Nat) (x : Int) : Ln W (w.setCell ⟨gc, i, none⟩ (.int .i64 x)) gc c2 (cur.set i x) bn br er id e l pv xv := by
  have hP := Kd.R_putg h.r (i : Int) x
  rw [Int.toNat_natCast] at hP
  obtain ⟨hr, hg⟩ := hP
  have hob : (Value.slice (some ⟨gc, 0, none⟩) cur.length c2).ownBlock = some gc := rfl
  have hlen : (cur.set i x).length = cur.length := List.length_set
  exact ⟨by rw [hlen]; exact hr, h.n.set h.lt.1 i _, h.x.set h.lt.2 i _, h.lt, h.bel.setCell (World.ownsRow.lt (Kd.own_of_R h.r) gc hob).1 _⟩
set_option maxHeartbeats 8000000 in
theorem news_calls (k : Nat) (W : World) (id e : Int) (A : Option Addr) (c : Nat) (l : List Int) (hr : Kd.C (Kd.int .i64) W A l.length l) (hc : l.length ≤ c) (hl : l.length ≤ 1048576) (e0 : Int) (hk1 : config_Check.f e l = some e0) (hk2 : hawserref21_CheckConfig.f k e l = some e0) (hs : hawserlaw23_sameConfig.f k e l e l = some true) :
    Calls Tryz.prog 10 #[.int .i64 id, .agg #[.int .i64 e, .slice A l.length c]] W fun r w => r = .returned (.bool true) ∧ Below W.heap.size W w := by
  obtain ⟨er, her⟩ : ∃ er : Int, er = if id < 1 ∨ 16 < id then 1 else e0 := ⟨_, rfl⟩
  have HER := Aside0.mk her
  have HK := Aside0.mk (And.intro hk1 (And.intro hk2 hs))
  have HC := Aside0.mk (Kd.C_alloc hr (.cells #[.int .i64 e, .slice A l.length c] 41))
  have HCC := Aside0.mk hc
  have HX := Aside0.mk (blk_new W (.cells #[.int .i64 e, .slice A l.length c] 41))
  have HB := Aside0.mk (below_alloc (Below.refl W.heap.size W) (.cells #[.int .i64 e, .slice A l.length c] 41))
  have HU26 := Aside0.mk Tryz.underlying26
  have HUC := Aside0.mk Tryz.underlying41
  have HIC : Aside0 ((Tryz.prog.info? 41).map (·.size) = some 2) := ⟨by kernel_rfl⟩
  clear hr hc her hk1 hk2 hs
  go_enter Tryz.func10, Tryz.ntmps10
  go_upto_region 1 with fail
  generalize W.alloc (.cells #[.int .i64 e, .slice A l.length c] 41) = w0 at HC HX HB ⊢
  generalize hg3 : W.heap.size = g3 at HX ⊢
  have x1 : (w0.alloc (.cells #[] 3)).cell? ⟨g3, 1, none⟩ = some (.slice A l.length c) := blk_cell (blk_alloc HX.out _) 1
  have hw0 : w0.heap.size < 18446744073709551616 ∨ True := .inr trivial
  obtain ⟨v1, w1, hrun1, hown1, hg1, hat1⟩ := run_appI (W := w0.alloc (.cells #[] 3)) (base := w0.heap.size) (u := .slice (some ⟨w0.heap.size, 0, none⟩) 0 0) (xs := []) (World.ownsRow_made w0 #[] 0 (Nat.le_refl _) (by decide) rfl) (Kd.C_alloc HC.out _) (c := c) 26 26 HU26.out (by simp; omega) (by rw [World.size_alloc]; omega)
  rw [List.nil_append] at hown1
  obtain ⟨A1, c1, rfl, hc1⟩ := own_sli hown1
  obtain ⟨v2, w2, hrun2, hown2, hg2, hat2⟩ := run_appI (W := w1.alloc (.cells #[.int .i64 7, .int .i64 7] 3)) (ys := [7, 7]) (c := 2) (hown1.alloc _) (C_of_blk (k := .i64) (L := [7, 7]) (o := 0) (n := 2) (blk_new w1 _) (by decide) (by decide)) 26 26 HU26.out (by simp; omega) (by rw [World.size_alloc]; have := hg1.size; rw [World.size_alloc] at this; omega)
  obtain ⟨A2, c2, rfl, hc2⟩ := own_sli hown2
  have HX2 := Aside0.mk (blk_grown (blk_alloc (blk_grown (blk_alloc HX.out (.cells #[] 3)) hg1 (fun h => by have hh : g3 = w0.heap.size := Option.some.inj h; have := blk_lt HX.out; omega)) (.cells #[.int .i64 7, .int .i64 7] 3)) hg2 (fun h => by
    have := (World.ownsRow.lt hown1 g3 h.symm).1; have := blk_lt HX.out; omega))
  have HO2 := Aside0.mk hown2
  have HC2 := Aside0.mk hc2
  have HB1 := (below_alloc (Below.refl w0.heap.size w0) (.cells #[] 3)).grown hg1 (below_alloc (Below.refl w0.heap.size w0) _).size (fun k hk => by have hh : w0.heap.size = k := Option.some.inj hk; rw [← hh]; exact Nat.le_refl _)
  have HB02 := Aside0.mk ((below_alloc HB1 (.cells #[.int .i64 7, .int .i64 7] 3)).grown hg2 (below_alloc HB1 _).size (fun k hk => (World.ownsRow.lt hown1 k hk).1))
  have HB2 := Aside0.mk (HB.out.trans (below_weaken' HB02.out HB.out.size))
  have HR1 := Aside0.mk hrun1
  have HR2 := Aside0.mk hrun2
  clear hrun1 hrun2 hown1 hown2 hg1 hg2 hat1 hat2 hc1 hc2 HB1 hw0
  go_upto_region 2 with (first | (at_builtin; refine wp_append (t := 26) rfl (.tmp 11) (.tmp 13) rfl rfl rfl HR1.out ?_) | (at_builtin; refine wp_append (t := 26) rfl (.tmp 14) (.tmp 15) rfl rfl rfl HR2.out ?_) | fail)
  have hr0 : Kd.R (Kd.int .i64) 3 w2 w0.heap.size (fun _ => True) (.slice A2 (l ++ [7, 7]).length c2) (l ++ [7, 7]) := Kd.R_of_own HO2.out (fun _ _ => trivial)
  obtain ⟨gc, c2', hA2, _⟩ := Kd.R_form hr0 (by simp)
  clear hr0
  injection hA2 with hA2 _ hc2'
  subst hA2 hc2'
  have y0 : w2.cell? ⟨g3, 0, none⟩ = some (.int .i64 e) := blk_cell HX2.out 0
  have y1 : w2.cell? ⟨g3, 1, none⟩ = some (.slice A l.length c) := blk_cell HX2.out 1
  have HRR : Aside0 (Kd.R (Kd.int .i64) 3 w2 w0.heap.size (fun _ => True) (.slice (some ⟨gc, 0, none⟩) (l ++ [7, 7]).length c2) (l ++ [7, 7])) := ⟨Kd.R_of_own HO2.out (fun _ _ => trivial)⟩
  have HN2 : (l.length : Int) ≤ 1048576 := by omega
  have HCC2 : l.length + 2 ≤ c2 := by have := HC2.out; simpa using this
  have HCC3 : (l.length : Int) + 2 ≤ (c2 : Int) := by omega
  have HCC4 : (l.length : Int) ≤ (c2 : Int) := by omega
  have HCC5 : l.length ≤ c2 := by omega
  clear HR1 HR2 HO2
  go_region_held3 (fun w' => w'.cell? ⟨g3, 0, none⟩ = some (.int .i64 e) ∧ w'.cell? ⟨g3, 1, none⟩ = some (.slice A l.length c)) (go_keep) (first
    | (go_at_call 36; refine (new_any _ id e (some ⟨gc, 0, none⟩) c2 l (Kd.C_below (C_front (Kd.R_reads' HRR.out).2.2) (Drawn0.below ⟨1, rfl⟩)) (by omega) (by omega) e0 er HK.out.1 HER.out).mono ?_; rintro r w3 ⟨pv, rfl, hB, hN⟩; (have HN := Aside0.mk hN); (have HB3 := Aside0.mk hB); clear hN hB; (have z0 : w3.cell? ⟨g3, 0, none⟩ = some (.int .i64 e) := blk_cell (blk_below HX2.out ((Drawn0.below ⟨1, rfl⟩).trans (HB3.out))) 0); (have z1 : w3.cell? ⟨g3, 1, none⟩ = some (.slice A l.length c) := blk_cell (blk_below HX2.out ((Drawn0.below ⟨1, rfl⟩).trans (HB3.out))) 1))
    | fail)
  have HX3 := Aside0.mk (blk_below HX2.out ((Drawn0.below ⟨1, rfl⟩).trans HB3.out))
  have HCA := Aside0.mk (Kd.C_below (Kd.C_below HC.out HB02.out) ((Drawn0.below ⟨1, rfl⟩).trans HB3.out))
  go_upto_region 4 with (first
    | ((with_reducible refine wpList_load_row rfl 41 (.tmp 3) rfl g3 ?_ 41 #[.int .i64 e, .slice A l.length c] (0, 0) _ HX3.out HUC.out ?_ ?_ ?_); (· rfl); (· rfl); (· exact HIC.out))
    | (go_at_call 39; refine (rnew_any k _ id e A c l HCA.out HCC.out hl e0 er HK.out.2.1 HER.out).mono ?_; rintro r w4 ⟨xv, rfl, hB, hN⟩; (have HM := Aside0.mk hN); (have HB4 := Aside0.mk hB); clear hN hB)
    | fail)
  have HR4 := Aside0.mk (R_below (R_below (R_below HRR.out (Drawn0.below ⟨1, rfl⟩)) HB3.out) HB4.out)
  have HGC := Aside0.mk (show gc < w2.heap.size from (World.ownsRow.lt (Kd.own_of_R HRR.out) gc rfl).2)
  have HS3 := HB3.out.size
  have HL4 := Aside0.mk (show Ln W w4 gc c2 (l ++ [7, 7]) w2.heap.size w3.heap.size er id e l pv xv from ⟨Kd.R_lower HR4.out HB.out.size, HN.out.imp (fun ⟨a, b, p, c, d⟩ => ⟨a, b, p, c, d.below HB4.out⟩) (fun h => h), HM.out, ⟨HGC.out, Nat.lt_of_lt_of_le HGC.out HB3.out.size⟩, HB2.out.trans (below_weaken' ((Drawn0.below ⟨1, rfl⟩).trans (HB3.out.trans (below_weaken' HB4.out HB3.out.size))) HB2.out.size)⟩)
  have u1 : w4.cell? ⟨g3, 1, none⟩ = some (.slice A l.length c) := blk_cell (blk_below HX3.out HB4.out) 1
  obtain ⟨u2, u3⟩ := Kd.R_celln 0 HR4.out (l.length : Int) (by omega) (by simp; omega)
  rw [Int.toNat_natCast] at u2 u3
  have u4 : rdOf 0 (l ++ [7, 7]) (l.length : Int) = 7 := by simp [rdOf]
  rw [u4] at u2
  have hb1 : (er != er) = false := by simp
  have HUP := Tryz.underlying65
  have HUX := Tryz.underlying89
  obtain ⟨bb, hbb⟩ : ∃ bb : Bool, (∀ w, (binOp .eql 65 (.pointer pv) (.pointer none)).run Tryz.prog w = .ok (.bool bb) w) ∧ (∀ w, (binOp .eql 89 (.pointer xv) (.pointer none)).run Tryz.prog w = .ok (.bool bb) w) ∧ Aside0 ((bb = false ∧ er = 0) ∨ (bb = true ∧ er ≠ 0)) := by
    rcases HN.out with ⟨hz, _, p, hp, _⟩ | ⟨hz, hp⟩
    · rcases HM.out with ⟨_, x, hx, _⟩ | ⟨hz2, _⟩
      · subst hp hx
        exact ⟨false, fun w => eqlptr_ w _ _ _ HUP, fun w => eqlptr_ w _ _ _ HUX, ⟨.inl ⟨rfl, hz⟩⟩⟩
      · exact absurd hz hz2
    · rcases HM.out with ⟨hz2, _⟩ | ⟨_, hx⟩
      · exact absurd hz2 hz
      · subst hp hx
        exact ⟨true, fun w => by kernel_rfl, fun w => by kernel_rfl, ⟨.inr ⟨rfl, hz⟩⟩⟩
  obtain ⟨hq1, hq2, HBB⟩ := hbb
  clear HUP HUX
  have hb2 : (bb != bb) = false := by simp
  go_upto_region 6 with fail
  go_wp2
  clear HB2 HB3 HB4 HX3 HX2 HCA HR4 u1 u2 u3 u4 HN HM y0 y1 z0 z1
  go_loopw [57] (fun v wr => ∃ (j : Nat) (cur : List Int), v = .int .i64 j ∧ j ≤ l.length + 2 ∧ Aside0 (cur.length = l.length + 2 ∧ Ln W wr gc c2 cur w2.heap.size w3.heap.size er id e l pv xv)) (fun v _ => l.length + 2 - (intOf v).toNat)
  case atStart => exact ⟨0, l ++ [7, 7], rfl, by omega, ⟨by simp, HL4.out⟩⟩
  case round =>
    obtain ⟨j, cur, rfl, hj, HP⟩ := hrel
    clear HL4
    obtain ⟨hcl, hX⟩ := HP.out
    have HY := Aside0.mk hX
    clear HP hX
    have HCU := Aside0.mk hcl
    by_cases hlt : j < l.length + 2
    · obtain ⟨hx, hf⟩ := Kd.R_celln 0 HY.out.r (j : Int) (by omega) (by omega)
      rw [Int.toNat_natCast] at hx hf
      have h1 : (j : Int) < (l.length : Int) + 2 := by omega
      have h3 : j < cur.length := by omega
      have hj0 : (0 : Int) ≤ (j : Int) := by omega
      clear hcl
      go_wp2
      go_roundw
      case rel => exact ⟨j + 1, cur.set j 1, by push_cast; rfl, by omega, ⟨by rw [List.length_set]; exact HCU.out, HY.out.put j 1⟩⟩
      case measure => simp [intOf]; omega
    · have hn : ¬ (j : Int) < (l.length : Int) + 2 := by omega
      clear hcl
      rcases HBB.out with ⟨hb, hz⟩ | ⟨hb, hz⟩
      · subst hb
        rcases HY.out.n with ⟨_, hid, p, hp, hCl⟩ | ⟨hz2, _⟩
        · rcases HY.out.x with ⟨_, x, hx, hR⟩ | ⟨hz2, _⟩
          · subst hp hx
            obtain ⟨A3, c3, hbx, hRx⟩ := hR.out
            have HCl := Aside0.mk hCl
            have HBx := Aside0.mk hbx
            have HRx := Aside0.mk (Kd.R_reads' hRx).2
            clear hCl hR hbx hRx
            go_wp2_with (first
              | (go_at_call 40; refine (looked_calls HCl.out hid HBx.out HRx.out.2 HRx.out.1 hl k HK.out.2.2).mono ?_; rintro r w5 ⟨rfl, hB⟩; (have HB5 := Aside0.mk (HY.out.bel.trans (below_weaken' hB HY.out.bel.size))); clear hB)
              | (go_at_call 26; refine (lives_calls _).mono ?_; rintro r w6 ⟨rfl, hB⟩; (have HB6 := Aside0.mk (HB5.out.trans (below_weaken' hB HB5.out.size))); clear hB)
              | fail)
            go_ret
            exact ⟨rfl, HB6.out⟩
          · exact absurd hz hz2
        · exact absurd hz hz2
      · subst hb
        go_wp2_with (first
          | (go_at_call 26; refine (lives_calls _).mono ?_; rintro r w6 ⟨rfl, hB⟩; (have HB6 := Aside0.mk (HY.out.bel.trans (below_weaken' hB HY.out.bel.size))); clear hB)
          | fail)
        go_ret
        exact ⟨rfl, HB6.out⟩
end Cli

namespace Cli
open Msg
set_option maxRecDepth 100000
set_option maxHeartbeats 2000000 in
/-- A message that is no answer to what it waits for is let go. -/
theorem answered_no {W : World} {base c q : Nat} {id e ep nu : Int} {ch : List Int} {rq : Rq} (h : Cl W base c id e ch ep nu (some ⟨q, 0, none⟩)) (hq : W.heap[q]? = some (.cells rq.cells 147 (0, 0))) (hi : 1 ≤ id) (m : Mg) (hno : rq.dn = true ∨ m.nu ≠ rq.nu ∨ m.ep < ep) :
    Calls Tryz.prog 72 #[.pointer (some ⟨c, 0, none⟩), .agg m.cells] W fun r w => r = .returned (.bool false) ∧ Below W.heap.size W w := by
  have hC1 := h.below (below_alloc (Below.refl W.heap.size W) (.cells m.cells 49))
  have HQ1 := Aside0.mk (blk_alloc hq (.cells m.cells 49))
  have HM1 := Aside0.mk (blk_new W (.cells m.cells 49))
  have HB1 := Aside0.mk (below_alloc (Below.refl W.heap.size W) (.cells m.cells 49))
  have HNO := Aside0.mk hno
  clear h hq hno
  go_enter Tryz.func72, Tryz.ntmps72
  go_upto_region 1 with fail
  generalize W.alloc (.cells m.cells 49) = w1 at hC1 HQ1 HM1 HB1 ⊢
  have HW : Aside0 (∀ (b : Bool), (!rq.dn) = b → ∀ n, Calls Tryz.prog 32 #[.pointer (some ⟨c, 0, none⟩)] (w1.drewN n) fun r w => r = .returned (.bool b) ∧ w = w1.drewN n) := ⟨fun b hb n => hb ▸ waits1_calls (hC1.below (Drawn0.below ⟨n, rfl⟩)) (blk_drewN HQ1.out n) hi⟩
  obtain ⟨A, cc, hbx, hox⟩ := hC1.out
  have HX1 := Aside0.mk hbx
  clear hbx hox hC1
  have c3 : w1.cell? ⟨c, 3, none⟩ = some (.int .i64 ep) := blk_cell HX1.out 3
  have c5 : w1.cell? ⟨c, 5, none⟩ = some (.pointer (some ⟨q, 0, none⟩)) := blk_cell HX1.out 5
  have q1 : w1.cell? ⟨q, 1, none⟩ = some (.int .i64 rq.nu) := blk_cell HQ1.out 1
  have m3 : w1.cell? ⟨W.heap.size, 3, none⟩ = some (.int .i64 m.ep) := blk_cell HM1.out 3
  have m6 : w1.cell? ⟨W.heap.size, 6, none⟩ = some (.int .i64 m.nu) := blk_cell HM1.out 6
  have HBD := Aside0.mk (fun n => HB1.out.trans (below_weaken' (Drawn0.below (⟨n, rfl⟩ : Drawn0 w1 (w1.drewN n))) HB1.out.size))
  by_cases hd : rq.dn = true
  · have HDN := Aside0.mk hd
    clear hd
    go_quiet ((go_at_call 32; exact Calls.quiet_of_same (HW.out false (by rw [HDN.out]; rfl) _)))
    go_wp2
    go_ret
    exact ⟨rfl, HBD.out _⟩
  · have hd' : rq.dn = false := by simpa using hd
    have HDN := Aside0.mk hd'
    by_cases hn : m.nu = rq.nu
    · have b1 : decide (m.ep < ep) = true := decide_eq_true (by rcases HNO.out with h | h | h; exact absurd h hd; exact absurd hn h; exact h)
      have b2 : (m.nu != rq.nu) = false := by simp [hn]
      clear hd hd' hn
      go_quiet ((go_at_call 32; exact Calls.quiet_of_same (HW.out true (by rw [HDN.out]; rfl) _)))
      go_wp2
      go_ret
      exact ⟨rfl, HBD.out _⟩
    · have b2 : (m.nu != rq.nu) = true := by simpa using hn
      clear hd hd' hn
      go_quiet ((go_at_call 32; exact Calls.quiet_of_same (HW.out true (by rw [HDN.out]; rfl) _)))
      go_wp2
      go_ret
      exact ⟨rfl, HBD.out _⟩
set_option maxHeartbeats 2000000 in
theorem take_no {W : World} {base c q : Nat} {id e ep nu : Int} {ch : List Int} {rq : Rq} (h : Cl W base c id e ch ep nu (some ⟨q, 0, none⟩)) (hq : W.heap[q]? = some (.cells rq.cells 147 (0, 0))) (hi : 1 ≤ id) (h16 : id ≤ 16) (m : Mg) (hkd : m.kd = 2) (htt : m.tt = 100 + id) (hno : rq.dn = true ∨ m.nu ≠ rq.nu ∨ m.ep < ep)
    (hck : ∀ w, Calls Tryz.prog 18 #[.agg m.cells] w fun r w' => r = .returned (.int .i64 0) ∧ Below w.heap.size w w') :
    Calls Tryz.prog 29 #[.pointer (some ⟨c, 0, none⟩), .agg m.cells] W fun r w => r = .returned (.tuple #[.bool false, .int .i64 0]) ∧ Below W.heap.size W w := by
  have HS := Aside0.mk (fun w (hw : w = W.alloc (.cells m.cells 49)) => is_calls (hw ▸ h.below (below_alloc (Below.refl W.heap.size W) (.cells m.cells 49)) : Cl w base c id e ch ep nu (some ⟨q, 0, none⟩)) hi)
  have HC1 := Aside0.mk (h.below (below_alloc (Below.refl W.heap.size W) (.cells m.cells 49)))
  have HQ1 := Aside0.mk (blk_alloc hq (.cells m.cells 49))
  have HM1 := Aside0.mk (blk_new W (.cells m.cells 49))
  have HB1 := Aside0.mk (below_alloc (Below.refl W.heap.size W) (.cells m.cells 49))
  have HU := Aside0.mk Tryz.underlying49
  have HKD := Aside0.mk hkd
  have HTT := Aside0.mk htt
  have HCK := Aside0.mk hck
  have HANS := Aside0.mk (fun w (h : Cl w base c id e ch ep nu (some ⟨q, 0, none⟩)) (hq : w.heap[q]? = some (.cells rq.cells 147 (0, 0))) => answered_no h hq hi m hno)
  have hs : IntKind.i64.wrap (100 + id) = 100 + id := IntWalk.i64_in _ (by omega)
  have hne : (m.tt != 100 + id) = false := by simp [htt]
  clear h hq hkd hno hck htt
  go_enter Tryz.func29, Tryz.ntmps29
  go_upto_region 6 with (first | (go_at_call 70; refine (HS.out _ rfl).mono ?_; rintro r w1 ⟨rfl, hw⟩; subst hw) | (go_at_call 18; refine (HCK.out _).mono ?_; rintro r w2 ⟨rfl, hb⟩; (have HC2 := Aside0.mk (HC1.out.below hb)); (have HQ2 := Aside0.mk (blk_below HQ1.out hb)); (have HM2 := Aside0.mk (blk_below HM1.out hb)); (have HB2 := Aside0.mk (HB1.out.trans (below_weaken' hb HB1.out.size))); clear hb) | ((with_reducible refine wpList_load_row rfl 49 (.tmp 3) rfl W.heap.size ?_ 49 m.cells (0, 0) _ HM1.out HU.out ?_ ?_ ?_); (· rfl); (· rfl); (· exact info_msg)) | fail)
  obtain ⟨A, cc, hbx, hox⟩ := HC2.out.out
  have c0 : w2.cell? ⟨c, 0, none⟩ = some (.int .i64 id) := blk_cell hbx 0
  have m2 : w2.cell? ⟨W.heap.size, 2, none⟩ = some (.int .i64 m.tt) := blk_cell HM2.out 2
  clear hbx hox
  go_region_held3 (fun w => w.cell? ⟨c, 0, none⟩ = some (.int .i64 id) ∧ w.cell? ⟨W.heap.size, 2, none⟩ = some (.int .i64 m.tt)) (go_keep) (fail)
  have HC3 := Aside0.mk (HC2.out.below (below_drew (Below.refl _ _)))
  have HQ3 := Aside0.mk (blk_drew HQ2.out)
  have HM3 := Aside0.mk (blk_drew HM2.out)
  have HB3 := Aside0.mk (HB2.out.trans (below_weaken' (Drawn0.below (⟨1, rfl⟩ : Drawn0 w2 w2.drew)) HB2.out.size))
  clear HC1 HQ1 HM1 HB1 HC2 HQ2 HM2 HB2 c0 m2
  generalize w2.drew = w3 at HC3 HQ3 HM3 HB3 ⊢
  have m0 : w3.cell? ⟨W.heap.size, 0, none⟩ = some (.int .i64 2) := by rw [← HKD.out]; exact blk_cell HM3.out 0
  go_wp2_with (first | (go_at_call 72; refine (HANS.out _ HC3.out HQ3.out).mono ?_; rintro r w4 ⟨rfl, hb4⟩) | ((with_reducible refine wpList_load_row rfl 49 (.tmp 3) rfl W.heap.size ?_ 49 m.cells (0, 0) _ HM3.out HU.out ?_ ?_ ?_); (· rfl); (· rfl); (· exact info_msg)) | fail)
  go_ret2
  exact ⟨rfl, HB3.out.trans (below_weaken' hb4 HB3.out.size)⟩
set_option maxHeartbeats 2000000 in
/-- A newer configuration is taken over. -/
theorem take_cfg {W : World} {base c q : Nat} {id e ep nu : Int} {ch : List Int} (h : Cl W base c id e ch ep nu (some ⟨q, 0, none⟩)) {qs : Array Value} (hq : W.heap[q]? = some (.cells qs 147 (0, 0))) (hi : 1 ≤ id) (h16 : id ≤ 16) (m : Mg) (l : List Int) (hkd : m.kd = 7) (htt : m.tt = 100 + id) (hce : e < m.ce) (hep : ep ≤ m.ce) (hr : Kd.C (Kd.int .i64) W m.chA l.length l) (hn : m.chN = l.length) (hc : l.length ≤ m.chC) (hl : l.length ≤ 1099511627776)
    (hck : ∀ w, Kd.C (Kd.int .i64) w m.chA l.length l → Calls Tryz.prog 18 #[.agg m.cells] w fun r w' => r = .returned (.int .i64 0) ∧ Below w.heap.size w w') :
    Calls Tryz.prog 29 #[.pointer (some ⟨c, 0, none⟩), .agg m.cells] W fun r w => r = .returned (.tuple #[.bool false, .int .i64 0]) ∧ Cl w base c id m.ce l m.ce nu (some ⟨q, 0, none⟩) ∧ w.heap[q]? = some (.cells qs 147 (0, 0)) ∧ Below base W w ∧ (∀ k, k < W.heap.size → k ≠ c → w.heap[k]? = W.heap[k]?) := by
  have HS := Aside0.mk (fun w (hw : w = W.alloc (.cells m.cells 49)) => is_calls (hw ▸ h.below (below_alloc (Below.refl W.heap.size W) (.cells m.cells 49)) : Cl w base c id e ch ep nu (some ⟨q, 0, none⟩)) hi)
  have HC1 := Aside0.mk (h.below (below_alloc (Below.refl W.heap.size W) (.cells m.cells 49)))
  have HQ0 := Aside0.mk hq
  obtain ⟨A0, cc0, hb0, _⟩ := h.out
  have HC0 := Aside0.mk hb0
  clear hb0
  have HM1 := Aside0.mk (blk_new W (.cells m.cells 49))
  have HB1 := Aside0.mk (below_alloc (Below.refl W.heap.size W) (.cells m.cells 49))
  have HR0 := Aside0.mk hr
  have HCL := Aside0.mk h.lt
  have HGE := Aside0.mk h.ge
  have HRC := Aside0.mk (And.intro hn hc)
  have HU := Aside0.mk Tryz.underlying49
  have HUC := Aside0.mk Tryz.underlying41
  have HKD := Aside0.mk hkd
  have HTT := Aside0.mk htt
  have HCK := Aside0.mk hck
  have HOF := Aside0.mk (own_f m.ce l hl)
  have hs : IntKind.i64.wrap (100 + id) = 100 + id := IntWalk.i64_in _ (by omega)
  have hne : (m.tt != 100 + id) = false := by simp [htt]
  have bgt : decide (e < m.ce) = true := decide_eq_true hce
  clear h hq hkd hck htt hr hn hc
  go_enter Tryz.func29, Tryz.ntmps29
  go_upto_region 6 with (first | (go_at_call 70; refine (HS.out _ rfl).mono ?_; rintro r w1 ⟨rfl, hw⟩; subst hw) | (go_at_call 18; refine (HCK.out _ (Kd.C_below HR0.out HB1.out)).mono ?_; rintro r w2 ⟨rfl, hb⟩; (have HC2 := Aside0.mk (HC1.out.below hb)); (have HM2 := Aside0.mk (blk_below HM1.out hb)); (have HB2 := Aside0.mk (HB1.out.trans (below_weaken' hb HB1.out.size))); clear hb) | ((with_reducible refine wpList_load_row rfl 49 (.tmp 3) rfl W.heap.size ?_ 49 m.cells (0, 0) _ HM1.out HU.out ?_ ?_ ?_); (· rfl); (· rfl); (· exact info_msg)) | fail)
  obtain ⟨A, cc, hbx, hox⟩ := HC2.out.out
  have c0 : w2.cell? ⟨c, 0, none⟩ = some (.int .i64 id) := blk_cell hbx 0
  have m2 : w2.cell? ⟨W.heap.size, 2, none⟩ = some (.int .i64 m.tt) := blk_cell HM2.out 2
  clear hbx hox
  go_region_held3 (fun w => w.cell? ⟨c, 0, none⟩ = some (.int .i64 id) ∧ w.cell? ⟨W.heap.size, 2, none⟩ = some (.int .i64 m.tt)) (go_keep) (fail)
  have HC3 := Aside0.mk (HC2.out.below (below_drew (Below.refl _ _)))
  have HM3 := Aside0.mk (blk_drew HM2.out)
  have HB3 := Aside0.mk (HB2.out.trans (below_weaken' (Drawn0.below (⟨1, rfl⟩ : Drawn0 w2 w2.drew)) HB2.out.size))
  clear HC1 HM1 HB1 HC2 HM2 HB2 c0 m2
  generalize w2.drew = w3 at HC3 HM3 HB3 ⊢
  have m0 : w3.cell? ⟨W.heap.size, 0, none⟩ = some (.int .i64 7) := by rw [← HKD.out]; exact blk_cell HM3.out 0
  obtain ⟨A, cc, hbx, hox⟩ := HC3.out.out
  have HX3 := Aside0.mk hbx
  have HO3 := Aside0.mk hox
  clear hbx hox
  have c1 : w3.cell? ⟨c, 1, none⟩ = some (.int .i64 e) := blk_cell HX3.out 1
  have m26 : w3.cell? ⟨W.heap.size, 26, none⟩ = some (.int .i64 m.ce) := blk_cell HM3.out 26
  have m27 : w3.cell? ⟨W.heap.size, 27, none⟩ = some (.slice m.chA m.chN m.chC) := blk_cell HM3.out 27
  go_upto_region 11 with fail
  go_quiet (fail)
  have HX3' := Aside0.mk (fun n => blk_drewN HX3.out n)
  have HM3' := Aside0.mk (fun n => blk_drewN HM3.out n)
  have HBN := Aside0.mk (fun n => HB3.out.trans (below_weaken' (Drawn0.below (⟨n, rfl⟩ : Drawn0 w3 (w3.drewN n))) HB3.out.size))
  have HRC' := Aside0.mk (fun n => Kd.C_below HR0.out (HBN.out n))
  go_upto_region 13 with (first
    | (go_at_call 71; rw [HRC.out.1]; refine (client_own.calls m.ce m.chA m.chC l m.ce l _ (HRC'.out _) HRC.out.2 HOF.out).mono ?_; rintro r w4 ⟨v1, rfl, ho, hb⟩; obtain ⟨A2, cc2, rfl⟩ := Kd.R_slice ho; (have HO4 := Aside0.mk ho); (have HB4 := Aside0.mk hb); (have HX4 := Aside0.mk (blk_below (HX3'.out _) hb)); (have HM4 := Aside0.mk (blk_below (HM3'.out _) hb)); (have k1 : w4.cell? ⟨c, 1, none⟩ = some (.int .i64 e) := blk_cell HX4.out 1); (have k2 : w4.cell? ⟨c, 2, none⟩ = some (.slice A ch.length cc) := blk_cell HX4.out 2); (have k3 : w4.frozen? ⟨c, 1, none⟩ = false := blk_frozen HX4.out 1); (have k4 : w4.frozen? ⟨c, 2, none⟩ = false := blk_frozen HX4.out 2); clear ho hb)
    | fail)
  have HLT : Aside0 (c < w4.heap.size) := ⟨blk_lt HX4.out⟩
  have HX5 := Aside0.mk (show ((w4.setCell ⟨c, 1, none⟩ (.int .i64 m.ce)).setCell ⟨c, 2, none⟩ (.slice A2 l.length cc2)).heap[c]? = some (.cells #[.int .i64 id, .int .i64 m.ce, .slice A2 l.length cc2, .int .i64 ep, .int .i64 nu, .pointer (some ⟨q, 0, none⟩)] 68 (0, 0)) from blk_put (blk_put HX4.out 1 _ rfl) 2 _ rfl)
  have HO5 := Aside0.mk (R_setc (R_setc HO4.out HX4.out 1 (.int .i64 m.ce)) (blk_set HX4.out 1 _) 2 (.slice A2 l.length cc2))
  have HM5 := Aside0.mk (blk_far (blk_far HM4.out (p := ⟨c, 1, none⟩) (Nat.ne_of_gt HCL.out) (.int .i64 m.ce)) (p := ⟨c, 2, none⟩) (Nat.ne_of_gt HCL.out) (.slice A2 l.length cc2))
  have HK5 := Aside0.mk (show ∀ k, k < W.heap.size → k ≠ c → ((w4.setCell ⟨c, 1, none⟩ (.int .i64 m.ce)).setCell ⟨c, 2, none⟩ (.slice A2 l.length cc2)).heap[k]? = W.heap[k]? from fun k hk hc => by
    have hs := (HBN.out nq).size
    rw [Below.heap_setCell _ _ _ _ hc, Below.heap_setCell _ _ _ _ hc, HB4.out.block k (by omega), (HBN.out nq).block k hk])
  have HB5 := Aside0.mk ((((below_weaken' (HBN.out nq) (Nat.le_trans HGE.out (Nat.le_of_lt HCL.out))).trans (below_weaken' HB4.out (Nat.le_trans (Nat.le_trans HGE.out (Nat.le_of_lt HCL.out)) (HBN.out nq).size))).setCell (p := ⟨c, 1, none⟩) HGE.out (.int .i64 m.ce)).setCell (p := ⟨c, 2, none⟩) HGE.out (.slice A2 l.length cc2))
  clear HX4 HO4 HM4 HB4 HX3 HO3 HM3 HX3' HM3' k1 k2 k3 k4 c1 m0 m26 m27
  generalize (w4.setCell ⟨c, 1, none⟩ (.int .i64 m.ce)).setCell ⟨c, 2, none⟩ (.slice A2 l.length cc2) = w5 at HX5 HO5 HM5 HK5 HB5 ⊢
  have c3 : w5.cell? ⟨c, 3, none⟩ = some (.int .i64 ep) := blk_cell HX5.out 3
  have f3 : w5.frozen? ⟨c, 3, none⟩ = false := blk_frozen HX5.out 3
  have m26 : w5.cell? ⟨W.heap.size, 26, none⟩ = some (.int .i64 m.ce) := blk_cell HM5.out 26
  have hmx : max ep m.ce = m.ce := by omega
  go_region
  go_wp2
  go_ret2
  have hk6 : ∀ k, k < W.heap.size → k ≠ c → (w5.setCell ⟨c, 3, none⟩ (.int .i64 m.ce)).drew.heap[k]? = W.heap[k]? := fun k hk hc => (Below.heap_setCell w5 ⟨c, 3, none⟩ (.int .i64 m.ce) k hc).trans (HK5.out k hk hc)
  have hqc : q ≠ c := blk_ne HQ0.out HC0.out (by decide)
  refine ⟨rfl, ⟨⟨A2, cc2, blk_drew (blk_put HX5.out 3 _ rfl), R_below (R_setc (Kd.R_lower HO5.out ?_) HX5.out 3 (.int .i64 m.ce)) (below_drew (Below.refl _ _))⟩, HGE.out⟩, (hk6 q (blk_lt HQ0.out) hqc).trans HQ0.out, ?_, hk6⟩
  · exact Nat.le_trans (Nat.le_trans HGE.out (Nat.le_of_lt HCL.out)) (HBN.out nq).size
  · exact (HB5.out.setCell (p := ⟨c, 3, none⟩) HGE.out (.int .i64 m.ce)).trans (below_weaken' (Drawn0.below (⟨1, rfl⟩ : Drawn0 _ (w5.setCell ⟨c, 3, none⟩ (.int .i64 m.ce)).drew)) (Nat.le_trans (Nat.le_trans HGE.out (Nat.le_of_lt HCL.out)) (HB5.out.setCell (p := ⟨c, 3, none⟩) HGE.out (.int .i64 m.ce)).size))
set_option maxHeartbeats 2000000 in
theorem last1_calls {W : World} {base c q : Nat} {id e ep nu : Int} {ch : List Int} {rq : Rq} (h : Cl W base c id e ch ep nu (some ⟨q, 0, none⟩)) (hq : W.heap[q]? = some (.cells rq.cells 147 (0, 0))) (hi : 1 ≤ id) : Calls Tryz.prog 30 #[.pointer (some ⟨c, 0, none⟩)] W fun r w => r = .returned (.tuple #[.agg rq.call, .bool rq.dn]) ∧ Below W.heap.size W w := by
  have hn := h.below (below_alloc (Below.refl _ _) (.cells zero16 77))
  have HI := Aside0.mk (fun w (hw : w = W.alloc (.cells zero16 77)) => is_calls (hw ▸ hn : Cl w base c id e ch ep nu (some ⟨q, 0, none⟩)) hi)
  obtain ⟨A, cc, hb, ho⟩ := hn.out
  have h5 : (W.alloc (.cells zero16 77)).cell? ⟨c, 5, none⟩ = some (.pointer (some ⟨q, 0, none⟩)) := blk_cell hb 5
  have h5' := h5
  unfold zero16 at h5'
  have HZ := Aside0.mk (blk_new W (.cells zero16 77))
  have HQ := Aside0.mk (blk_alloc hq (.cells zero16 77))
  have HC := Aside0.mk hb
  have HN := Aside0.mk (And.intro (Nat.ne_of_lt h.lt) (Nat.ne_of_lt (blk_lt hq)))
  have HIC : Aside0 ((Tryz.prog.info? 77).map (·.size) = some 16) := ⟨by kernel_rfl⟩
  have HU := Aside0.mk Tryz.underlying77
  clear h hn hb ho hq
  go_enter Tryz.func30, Tryz.ntmps30
  go_upto_region 3 with (first | (go_at_call 70; refine (HI.out _ rfl).mono ?_; rintro r w1 ⟨rfl, hw⟩; subst hw) | fail)
  refine wp_region_held_drew (S := fun w' => Aside0 (w'.heap[c]? = some (.cells #[.int .i64 id, .int .i64 e, .slice A ch.length cc, .int .i64 ep, .int .i64 nu, .pointer (some ⟨q, 0, none⟩)] 68 (0, 0)) ∧ w'.heap[q]? = some (.cells rq.cells 147 (0, 0)))) (by kernel_rfl) ⟨blk_drew HC.out, blk_drew HQ.out⟩ (fun hHeld => ?_)
  refine wpAnyH_take (i := 0) (oi := Oper.mk _ _ _ _ _ _) (v := ?v0) rfl (by kernel_rfl) (by kernel_rfl) (by kernel_rfl) (fun _ _ _ h => h) (Or.inl ⟨by rfl, ?hy0⟩) (by assumption) ?r0
  case hy0 => (intro w hSw; clear hSw; go_simp; (try with_reducible rfl))
  try simp only [Act.put, List.setIfInBounds_toArray, List.set_cons_zero, List.set_cons_succ]
  refine wpAnyH_take (i := 1) (oi := Oper.mk _ _ _ _ _ _) (v := ?v1) rfl (by kernel_rfl) (by kernel_rfl) (by kernel_rfl) (fun _ _ _ h => h) (Or.inl ⟨by rfl, ?hy1⟩) (by assumption) ?r1
  case hy1 => (intro w hSw; clear hSw; go_simp; (try with_reducible rfl))
  try simp only [Act.put, List.setIfInBounds_toArray, List.set_cons_zero, List.set_cons_succ]
  refine wpAnyH_take (i := 2) (oi := Oper.mk _ _ _ _ _ _) (v := ?v2) rfl (by kernel_rfl) (by kernel_rfl) (by kernel_rfl) (fun _ _ _ h => h) (Or.inl ⟨by rfl, ?hy2⟩) (by assumption) ?r2
  case hy2 => (intro w hSw; clear hSw; go_simp; (try with_reducible rfl))
  try simp only [Act.put, List.setIfInBounds_toArray, List.set_cons_zero, List.set_cons_succ]
  refine wpAnyH_take (i := 3) (oi := Oper.mk _ _ _ _ _ _) (v := ?v3) rfl (by kernel_rfl) (by kernel_rfl) (by kernel_rfl) (fun _ _ _ h => h) (Or.inl ⟨by rfl, ?hy3⟩) (by assumption) ?r3
  case hy3 => (intro w hSw; (have g5 : w.cell? ⟨c, 5, none⟩ = some (.pointer (some ⟨q, 0, none⟩)) := blk_cell hSw.out.1 5); (have q0 : w.cell? ⟨q, 0, none⟩ = some (.int .i64 rq.cl) := blk_cell hSw.out.2 0); (have q1 : w.cell? ⟨q, 1, none⟩ = some (.int .i64 rq.nu) := blk_cell hSw.out.2 1); (have q2 : w.cell? ⟨q, 2, none⟩ = some (.bool rq.rd) := blk_cell hSw.out.2 2); (have q3 : w.cell? ⟨q, 3, none⟩ = some (.string rq.key) := blk_cell hSw.out.2 3); (have q4 : w.cell? ⟨q, 4, none⟩ = some (.int .i64 rq.ok) := blk_cell hSw.out.2 4); (have q5 : w.cell? ⟨q, 5, none⟩ = some (.string rq.okey) := blk_cell hSw.out.2 5); (have q6 : w.cell? ⟨q, 6, none⟩ = some (.string rq.oval) := blk_cell hSw.out.2 6); (have q7 : w.cell? ⟨q, 7, none⟩ = some (.int .i64 rq.over) := blk_cell hSw.out.2 7); (have q8 : w.cell? ⟨q, 8, none⟩ = some (.int .i64 rq.bg) := blk_cell hSw.out.2 8); (have q9 : w.cell? ⟨q, 9, none⟩ = some (.int .i64 rq.en) := blk_cell hSw.out.2 9); (have q10 : w.cell? ⟨q, 10, none⟩ = some (.int .i64 rq.rc) := blk_cell hSw.out.2 10); (have q11 : w.cell? ⟨q, 11, none⟩ = some (.int .i64 rq.rv) := blk_cell hSw.out.2 11); (have q12 : w.cell? ⟨q, 12, none⟩ = some (.string rq.rkey) := blk_cell hSw.out.2 12); (have q13 : w.cell? ⟨q, 13, none⟩ = some (.string rq.rval) := blk_cell hSw.out.2 13); (have q14 : w.cell? ⟨q, 14, none⟩ = some (.int .i64 rq.rver) := blk_cell hSw.out.2 14); (have q15 : w.cell? ⟨q, 15, none⟩ = some (.bool rq.fd) := blk_cell hSw.out.2 15); (have q17 : w.cell? ⟨q, 17, none⟩ = some (.bool rq.dn) := blk_cell hSw.out.2 17); clear hSw; go_simp; (try with_reducible rfl))
  try simp only [Act.put, List.setIfInBounds_toArray, List.set_cons_zero, List.set_cons_succ]
  refine wpAnyH_take (i := 4) (oi := Oper.mk _ _ _ _ _ _) (v := ?v4) rfl (by kernel_rfl) (by kernel_rfl) (by kernel_rfl) (fun _ _ _ h => h) (Or.inl ⟨by rfl, ?hy4⟩) (by assumption) ?r4
  case hy4 => (intro w hSw; clear hSw; go_simp; (try with_reducible rfl))
  try simp only [Act.put, List.setIfInBounds_toArray, List.set_cons_zero, List.set_cons_succ]
  refine wpAnyH_take (i := 5) (oi := Oper.mk _ _ _ _ _ _) (v := ?v5) rfl (by kernel_rfl) (by kernel_rfl) (by kernel_rfl) (fun _ _ _ h => h) (Or.inl ⟨by rfl, ?hy5⟩) (by assumption) ?r5
  case hy5 => (intro w hSw; clear hSw; go_simp; (try with_reducible rfl))
  try simp only [Act.put, List.setIfInBounds_toArray, List.set_cons_zero, List.set_cons_succ]
  refine wpAnyH_take (i := 6) (oi := Oper.mk _ _ _ _ _ _) (v := ?v6) rfl (by kernel_rfl) (by kernel_rfl) (by kernel_rfl) (fun _ _ _ h => h) (Or.inl ⟨by rfl, ?hy6⟩) (by assumption) ?r6
  case hy6 => (intro w hSw; (have g5 : w.cell? ⟨c, 5, none⟩ = some (.pointer (some ⟨q, 0, none⟩)) := blk_cell hSw.out.1 5); (have q0 : w.cell? ⟨q, 0, none⟩ = some (.int .i64 rq.cl) := blk_cell hSw.out.2 0); (have q1 : w.cell? ⟨q, 1, none⟩ = some (.int .i64 rq.nu) := blk_cell hSw.out.2 1); (have q2 : w.cell? ⟨q, 2, none⟩ = some (.bool rq.rd) := blk_cell hSw.out.2 2); (have q3 : w.cell? ⟨q, 3, none⟩ = some (.string rq.key) := blk_cell hSw.out.2 3); (have q4 : w.cell? ⟨q, 4, none⟩ = some (.int .i64 rq.ok) := blk_cell hSw.out.2 4); (have q5 : w.cell? ⟨q, 5, none⟩ = some (.string rq.okey) := blk_cell hSw.out.2 5); (have q6 : w.cell? ⟨q, 6, none⟩ = some (.string rq.oval) := blk_cell hSw.out.2 6); (have q7 : w.cell? ⟨q, 7, none⟩ = some (.int .i64 rq.over) := blk_cell hSw.out.2 7); (have q8 : w.cell? ⟨q, 8, none⟩ = some (.int .i64 rq.bg) := blk_cell hSw.out.2 8); (have q9 : w.cell? ⟨q, 9, none⟩ = some (.int .i64 rq.en) := blk_cell hSw.out.2 9); (have q10 : w.cell? ⟨q, 10, none⟩ = some (.int .i64 rq.rc) := blk_cell hSw.out.2 10); (have q11 : w.cell? ⟨q, 11, none⟩ = some (.int .i64 rq.rv) := blk_cell hSw.out.2 11); (have q12 : w.cell? ⟨q, 12, none⟩ = some (.string rq.rkey) := blk_cell hSw.out.2 12); (have q13 : w.cell? ⟨q, 13, none⟩ = some (.string rq.rval) := blk_cell hSw.out.2 13); (have q14 : w.cell? ⟨q, 14, none⟩ = some (.int .i64 rq.rver) := blk_cell hSw.out.2 14); (have q15 : w.cell? ⟨q, 15, none⟩ = some (.bool rq.fd) := blk_cell hSw.out.2 15); (have q17 : w.cell? ⟨q, 17, none⟩ = some (.bool rq.dn) := blk_cell hSw.out.2 17); clear hSw; go_simp; (try with_reducible rfl))
  try simp only [Act.put, List.setIfInBounds_toArray, List.set_cons_zero, List.set_cons_succ]
  refine wpAnyH_take (i := 7) (oi := Oper.mk _ _ _ _ _ _) (v := ?v7) rfl (by kernel_rfl) (by kernel_rfl) (by kernel_rfl) (fun _ _ _ h => h) (Or.inl ⟨by rfl, ?hy7⟩) (by assumption) ?r7
  case hy7 => (intro w hSw; clear hSw; go_simp; (try with_reducible rfl))
  try simp only [Act.put, List.setIfInBounds_toArray, List.set_cons_zero, List.set_cons_succ]
  refine wpAnyH_take (i := 8) (oi := Oper.mk _ _ _ _ _ _) (v := ?v8) rfl (by kernel_rfl) (by kernel_rfl) (by kernel_rfl) (fun _ _ _ h => h) (Or.inl ⟨by rfl, ?hy8⟩) (by assumption) ?r8
  case hy8 => (intro w hSw; clear hSw; go_simp; (try with_reducible rfl))
  try simp only [Act.put, List.setIfInBounds_toArray, List.set_cons_zero, List.set_cons_succ]
  refine wpAnyH_take (i := 9) (oi := Oper.mk _ _ _ _ _ _) (v := ?v9) rfl (by kernel_rfl) (by kernel_rfl) (by kernel_rfl) (fun _ _ _ h => h) (Or.inl ⟨by rfl, ?hy9⟩) (by assumption) ?r9
  case hy9 => (intro w hSw; clear hSw; go_simp; (try with_reducible rfl))
  try simp only [Act.put, List.setIfInBounds_toArray, List.set_cons_zero, List.set_cons_succ]
  refine wpAnyH_take (i := 10) (oi := Oper.mk _ _ _ _ _ _) (v := ?v10) rfl (by kernel_rfl) (by kernel_rfl) (by kernel_rfl) (fun _ _ _ h => h) (Or.inl ⟨by rfl, ?hy10⟩) (by assumption) ?r10
  case hy10 => (intro w hSw; (have g5 : w.cell? ⟨c, 5, none⟩ = some (.pointer (some ⟨q, 0, none⟩)) := blk_cell hSw.out.1 5); (have q0 : w.cell? ⟨q, 0, none⟩ = some (.int .i64 rq.cl) := blk_cell hSw.out.2 0); (have q1 : w.cell? ⟨q, 1, none⟩ = some (.int .i64 rq.nu) := blk_cell hSw.out.2 1); (have q2 : w.cell? ⟨q, 2, none⟩ = some (.bool rq.rd) := blk_cell hSw.out.2 2); (have q3 : w.cell? ⟨q, 3, none⟩ = some (.string rq.key) := blk_cell hSw.out.2 3); (have q4 : w.cell? ⟨q, 4, none⟩ = some (.int .i64 rq.ok) := blk_cell hSw.out.2 4); (have q5 : w.cell? ⟨q, 5, none⟩ = some (.string rq.okey) := blk_cell hSw.out.2 5); (have q6 : w.cell? ⟨q, 6, none⟩ = some (.string rq.oval) := blk_cell hSw.out.2 6); (have q7 : w.cell? ⟨q, 7, none⟩ = some (.int .i64 rq.over) := blk_cell hSw.out.2 7); (have q8 : w.cell? ⟨q, 8, none⟩ = some (.int .i64 rq.bg) := blk_cell hSw.out.2 8); (have q9 : w.cell? ⟨q, 9, none⟩ = some (.int .i64 rq.en) := blk_cell hSw.out.2 9); (have q10 : w.cell? ⟨q, 10, none⟩ = some (.int .i64 rq.rc) := blk_cell hSw.out.2 10); (have q11 : w.cell? ⟨q, 11, none⟩ = some (.int .i64 rq.rv) := blk_cell hSw.out.2 11); (have q12 : w.cell? ⟨q, 12, none⟩ = some (.string rq.rkey) := blk_cell hSw.out.2 12); (have q13 : w.cell? ⟨q, 13, none⟩ = some (.string rq.rval) := blk_cell hSw.out.2 13); (have q14 : w.cell? ⟨q, 14, none⟩ = some (.int .i64 rq.rver) := blk_cell hSw.out.2 14); (have q15 : w.cell? ⟨q, 15, none⟩ = some (.bool rq.fd) := blk_cell hSw.out.2 15); (have q17 : w.cell? ⟨q, 17, none⟩ = some (.bool rq.dn) := blk_cell hSw.out.2 17); clear hSw; go_simp; (try with_reducible rfl))
  try simp only [Act.put, List.setIfInBounds_toArray, List.set_cons_zero, List.set_cons_succ]
  refine wpAnyH_take (i := 11) (oi := Oper.mk _ _ _ _ _ _) (v := ?v11) rfl (by kernel_rfl) (by kernel_rfl) (by kernel_rfl) (fun _ _ _ h => h) (Or.inl ⟨by rfl, ?hy11⟩) (by assumption) ?r11
  case hy11 => (intro w hSw; clear hSw; go_simp; (try with_reducible rfl))
  try simp only [Act.put, List.setIfInBounds_toArray, List.set_cons_zero, List.set_cons_succ]
  refine wpAnyH_take (i := 12) (oi := Oper.mk _ _ _ _ _ _) (v := ?v12) rfl (by kernel_rfl) (by kernel_rfl) (by kernel_rfl) (fun _ _ _ h => h) (Or.inl ⟨by rfl, ?hy12⟩) (by assumption) ?r12
  case hy12 => (intro w hSw; clear hSw; go_simp; (try with_reducible rfl))
  try simp only [Act.put, List.setIfInBounds_toArray, List.set_cons_zero, List.set_cons_succ]
  refine wpAnyH_take (i := 13) (oi := Oper.mk _ _ _ _ _ _) (v := ?v13) rfl (by kernel_rfl) (by kernel_rfl) (by kernel_rfl) (fun _ _ _ h => h) (Or.inl ⟨by rfl, ?hy13⟩) (by assumption) ?r13
  case hy13 => (intro w hSw; (have g5 : w.cell? ⟨c, 5, none⟩ = some (.pointer (some ⟨q, 0, none⟩)) := blk_cell hSw.out.1 5); (have q0 : w.cell? ⟨q, 0, none⟩ = some (.int .i64 rq.cl) := blk_cell hSw.out.2 0); (have q1 : w.cell? ⟨q, 1, none⟩ = some (.int .i64 rq.nu) := blk_cell hSw.out.2 1); (have q2 : w.cell? ⟨q, 2, none⟩ = some (.bool rq.rd) := blk_cell hSw.out.2 2); (have q3 : w.cell? ⟨q, 3, none⟩ = some (.string rq.key) := blk_cell hSw.out.2 3); (have q4 : w.cell? ⟨q, 4, none⟩ = some (.int .i64 rq.ok) := blk_cell hSw.out.2 4); (have q5 : w.cell? ⟨q, 5, none⟩ = some (.string rq.okey) := blk_cell hSw.out.2 5); (have q6 : w.cell? ⟨q, 6, none⟩ = some (.string rq.oval) := blk_cell hSw.out.2 6); (have q7 : w.cell? ⟨q, 7, none⟩ = some (.int .i64 rq.over) := blk_cell hSw.out.2 7); (have q8 : w.cell? ⟨q, 8, none⟩ = some (.int .i64 rq.bg) := blk_cell hSw.out.2 8); (have q9 : w.cell? ⟨q, 9, none⟩ = some (.int .i64 rq.en) := blk_cell hSw.out.2 9); (have q10 : w.cell? ⟨q, 10, none⟩ = some (.int .i64 rq.rc) := blk_cell hSw.out.2 10); (have q11 : w.cell? ⟨q, 11, none⟩ = some (.int .i64 rq.rv) := blk_cell hSw.out.2 11); (have q12 : w.cell? ⟨q, 12, none⟩ = some (.string rq.rkey) := blk_cell hSw.out.2 12); (have q13 : w.cell? ⟨q, 13, none⟩ = some (.string rq.rval) := blk_cell hSw.out.2 13); (have q14 : w.cell? ⟨q, 14, none⟩ = some (.int .i64 rq.rver) := blk_cell hSw.out.2 14); (have q15 : w.cell? ⟨q, 15, none⟩ = some (.bool rq.fd) := blk_cell hSw.out.2 15); (have q17 : w.cell? ⟨q, 17, none⟩ = some (.bool rq.dn) := blk_cell hSw.out.2 17); clear hSw; go_simp; (try with_reducible rfl))
  try simp only [Act.put, List.setIfInBounds_toArray, List.set_cons_zero, List.set_cons_succ]
  have HZ1 := Aside0.mk (blk_drew HZ.out)
  refine wpAnyH_ready (rs := [14]) (by kernel_rfl) (by simp) ?_
  refine AllReadyH.cons (o := Oper.mk _ _ _ _ _ _) rfl (fun K hK => ?_) AllReadyH.nil
  rw [if_pos (by rfl)]
  refine wp_store_row 77 (.tmp 2) (.tmp 21) rfl W.heap.size rq.call ?d1 ?d2 77 zero16 ?c1 ?c2 ?c3 ?c4 ?_
  case d1 => rfl
  case d2 => rfl
  case c1 => exact HZ1.out
  case c2 => exact HIC.out
  case c3 => rfl
  case c4 => kernel_rfl
  refine hK.out _ _ ?hS14 (fun hHeld => ?r14)
  case hS14 => exact ⟨(setRow_other _ _ _ _ HN.out.1).trans hHeld.out.1, (setRow_other _ _ _ _ HN.out.2).trans hHeld.out.2⟩
  clear hK K
  try simp only [Act.put, List.setIfInBounds_toArray, List.set_cons_zero, List.set_cons_succ]
  refine wpAnyH_take (i := 15) (oi := Oper.mk _ _ _ _ _ _) (v := ?v15) rfl (by kernel_rfl) (by kernel_rfl) (by kernel_rfl) (fun _ _ _ h => h) (Or.inl ⟨by rfl, ?hy15⟩) (by assumption) ?r15
  case hy15 => (intro w hSw; clear hSw; go_simp; (try with_reducible rfl))
  try simp only [Act.put, List.setIfInBounds_toArray, List.set_cons_zero, List.set_cons_succ]
  refine wpAnyH_done (by kernel_rfl) ?_ _
  go_wp2
  refine bodyPost_ret (results_cells2 (P := Tryz.prog) rfl _ _ W.heap.size 77 rq.call (0, 0) _ rfl (setRow_heap _ _ _ _ 77 (0, 0) HZ1.out) HU.out rfl HIC.out) rfl ?_
  exact ⟨rfl, below_setRow ((below_alloc (Below.refl _ _) _).trans (below_weaken' (Drawn0.below ⟨1, rfl⟩) (by rw [World.size_alloc]; omega))) (Nat.le_refl _) _⟩
end Cli

namespace Cli
open Msg
set_option maxRecDepth 100000
/-- A message with a configuration. -/
def cfgMsg (tt ce : Int) (A : Option Addr) (n c : Nat) : Mg := ⟨7, 0, tt, 0, 0, 0, 0, 0, ⟨#[]⟩, 0, ⟨#[]⟩, ⟨#[]⟩, 0, 0, 0, 0, 0, ⟨#[]⟩, ⟨#[]⟩, 0, 0, 0, ⟨#[]⟩, ⟨#[]⟩, 0, false, ce, A, n, c, 0, none, 0, 0, none, 0, 0, 0, false, none, 0, 0, 0, 0, 0⟩
/-- A reply. -/
def repMsg (fr tt ep cl nu rc rv : Int) : Mg := ⟨2, fr, tt, ep, 0, cl, nu, 0, ⟨#[]⟩, 0, ⟨#[]⟩, ⟨#[]⟩, 0, 0, 0, 0, 0, ⟨#[]⟩, ⟨#[]⟩, 0, rc, rv, ⟨#[]⟩, ⟨#[]⟩, 0, false, 0, none, 0, 0, 0, none, 0, 0, none, 0, 0, 0, false, none, 0, 0, 0, 0, 0⟩
theorem plc_cl {tt : Int} (h1 : 101 ≤ tt) (h2 : tt ≤ 116) : Msg.plc tt = 3 := by unfold Msg.plc; rw [if_neg (by omega), if_neg (by omega), if_pos (by omega)]
theorem check_cfg (w : World) (tt ce : Int) (A : Option Addr) (c : Nat) (l : List Int) (hC : Kd.C (Kd.int .i64) w A l.length l) (hc : l.length ≤ c) (h1 : 101 ≤ tt) (h2 : tt ≤ 116) (hr : rcfg ce l = true) (hl : l.length ≤ 1099511627776) :
    Calls Tryz.prog 18 #[.agg (cfgMsg tt ce A l.length c).cells] w fun r w' => r = .returned (.int .i64 0) ∧ Below w.heap.size w w' := by
  have hx := check_calls w (cfgMsg tt ce A l.length c) ⟨l, []⟩ ⟨hC, rfl, hc, Kd.C_nil _ _, rfl, Nat.le_refl _⟩ 6 (by decide) rfl
    [⟨91, (fun m l => rcfg m.ce l.ch), (fun m b => { b with ce := m.ce, chA := m.chA, chN := m.chN, chC := m.chC })⟩]
    rfl (by
      intro x hx
      simp only [List.mem_cons, List.not_mem_nil, or_false] at hx
      subst hx
      exact fs_configs) true
    (fun w' hr => alike_same w' (cfgMsg tt ce A l.length c) ⟨l, []⟩ hr hl (Nat.zero_le _) rfl rfl)
  refine hx.mono ?_
  rintro r w' ⟨rfl, hb⟩
  refine ⟨congrArg (fun x => Ending.returned (.int .i64 x)) ?_, hb⟩
  have hg : goes (wsT 6) (cfgMsg tt ce A l.length c) = true := by
    show (decide ((Msg.plc 0, Msg.plc tt) ∈ [(1, 2), (1, 3)]) && ((Msg.plc 0 != 2 || Msg.plc tt != 2) || (0 : Int) != tt)) = true
    rw [plc_cl h1 h2]; rfl
  have ha : ([⟨91, (fun m l => rcfg m.ce l.ch), (fun m b => { b with ce := m.ce, chA := m.chA, chN := m.chN, chC := m.chC })⟩] : List FS).all (fun x => x.may (cfgMsg tt ce A l.length c) ⟨l, []⟩) = true := by
    show (rcfg ce l && true) = true
    rw [hr]; rfl
  unfold Msg.chk
  rw [if_pos hg, if_pos ha, if_pos rfl]
theorem check_rep (w : World) (fr tt ep cl nu rc rv : Int) (h1 : 1 ≤ fr ∧ fr ≤ 8) (h2 : tt = 100 + cl) (h3 : 1 ≤ cl ∧ cl ≤ 16) (h4 : 1 ≤ ep ∧ ep ≤ 1099511627776) (h5 : 1 ≤ nu ∧ nu ≤ 1152921504606846976) (h6 : 1 ≤ rc ∧ rc ≤ 5) (h7 : 0 ≤ rv ∧ rv ≤ 1152921504606846976) :
    Calls Tryz.prog 18 #[.agg (repMsg fr tt ep cl nu rc rv).cells] w fun r w' => r = .returned (.int .i64 0) ∧ Below w.heap.size w w' := by
  have hx := check_calls w (repMsg fr tt ep cl nu rc rv) ⟨[], []⟩ ⟨Kd.C_nil _ _, rfl, Nat.le_refl _, Kd.C_nil _ _, rfl, Nat.le_refl _⟩ 1 (by decide) rfl
    [⟨87, (fun m _ => decide (1 ≤ m.ep ∧ m.ep ≤ 1099511627776)), (fun m b => { b with ep := m.ep })⟩, ⟨84, (fun m _ => decide (1 ≤ m.cl ∧ m.cl ≤ 16) && cli2 m), (fun m b => { b with cl := m.cl })⟩, ⟨85, (fun m _ => decide (1 ≤ m.nu ∧ m.nu ≤ 1152921504606846976)), (fun m b => { b with nu := m.nu })⟩, ⟨88, (fun m _ => res3 m), (fun m b => { b with rc := m.rc, rv := m.rv })⟩]
    rfl (by
      intro x hx
      simp only [List.mem_cons, List.not_mem_nil, or_false] at hx
      rcases hx with rfl | rfl | rfl | rfl
      · exact fs_epochs
      · exact fs_clients
      · exact fs_numbers
      · exact fs_results) true
    (fun w' hr => alike_same w' (repMsg fr tt ep cl nu rc rv) ⟨[], []⟩ hr (by decide) (by decide) rfl rfl)
  refine hx.mono ?_
  rintro r w' ⟨rfl, hb⟩
  refine ⟨congrArg (fun x => Ending.returned (.int .i64 x)) ?_, hb⟩
  have hp : Msg.plc fr = 2 := by unfold Msg.plc; rw [if_neg (by omega), if_pos h1]
  have ht : Msg.plc tt = 3 := plc_cl (by omega) (by omega)
  have hg : goes (wsT 1) (repMsg fr tt ep cl nu rc rv) = true := by
    show (decide ((Msg.plc fr, Msg.plc tt) ∈ [((2 : Int), (3 : Int))]) && ((Msg.plc fr != 2 || Msg.plc tt != 2) || fr != tt)) = true
    rw [hp, ht]; rfl
  have hc : cli2 (repMsg fr tt ep cl nu rc rv) = true := by
    show ((Msg.plc fr != 3 || fr == wrap64 (100 + cl)) && (Msg.plc tt != 3 || tt == wrap64 (100 + cl))) = true
    have hw : wrap64 (100 + cl) = 100 + cl := by unfold wrap64; omega
    rw [hp, ht, hw, h2]; simp
  unfold Msg.chk
  rw [if_pos hg, if_pos ?_, if_pos rfl]
  simp only [List.all_cons, List.all_nil, Bool.and_true, Bool.and_eq_true, decide_eq_true_eq]
  refine ⟨h4, ⟨h3, hc⟩, h5, ?_⟩
  show (decide (1 ≤ rc) && decide (rc ≤ 5) && decide (0 ≤ rv) && decide (rv ≤ 1152921504606846976)) = true
  simp [h6, h7]
end Cli

namespace Cli
open Msg Go.Proofs.YtepkaaplhcbkbaaGreat.H Go.Proofs.YtepkaaplhcbkbaaGreat.Blocks
set_option maxRecDepth 100000
theorem cell_fm {c : Nat} {w w' : World} (hf : Fm c w w') {a : Addr} {v : Value} (h : w.cell? a = some v) (ha : a.block ≠ c) : w'.cell? a = some v := by
  have hlt : a.block < w.heap.size := by
    cases hb : w.heap[a.block]? with
    | none => simp [World.cell?, hb] at h
    | some o => exact blk_lt hb
  have := hf.blk a.block hlt ha
  unfold World.cell? at h ⊢
  rw [this]
  exact h
theorem C_fm {c : Nat} {w w' : World} {A : Option Addr} {l : List Int} (h : Kd.C (Kd.int .i64) w A l.length l) (hf : Fm c w w') (hA : ∀ a, A = some a → a.block ≠ c) : Kd.C (Kd.int .i64) w' A l.length l := by
  refine ⟨h.1, h.2.1, fun hp => ?_⟩
  obtain ⟨ad, e, hcell⟩ := h.2.2 hp
  refine ⟨ad, e, fun j x hj => ?_⟩
  obtain ⟨cs, hl, hK, hcc⟩ := hcell j x hj
  exact ⟨cs, hl, hK, fun i v hv => cell_fm hf (hcc i v hv) (by have := hA ad e; simp only [Addr.add]; split <;> exact this)⟩
/-- What 'place' answers. -/
def plv (k n : Int) : Int := if k.tmod n < 0 then k.tmod n + n else k.tmod n
theorem tmod_in (k n : Int) (hn : 1 ≤ n) : -n < k.tmod n ∧ k.tmod n < n := by
  by_cases hk : 0 ≤ k
  · rw [Int.tmod_eq_emod_of_nonneg hk]
    have := Int.emod_nonneg k (show n ≠ 0 by omega)
    have := Int.emod_lt_of_pos k (show 0 < n by omega)
    omega
  · have e : k = -(-k) := by omega
    rw [e, Int.neg_tmod, Int.tmod_eq_emod_of_nonneg (by omega)]
    have := Int.emod_nonneg (-k) (show n ≠ 0 by omega)
    have := Int.emod_lt_of_pos (-k) (show 0 < n by omega)
    omega
theorem plv_in (k n : Int) (hn : 1 ≤ n) : 0 ≤ plv k n ∧ plv k n < n := by
  have := tmod_in k n hn
  unfold plv
  split <;> omega
theorem place_calls (W : World) (k n : Int) (hn : 1 ≤ n) (hn2 : n ≤ 1152921504606846976) : Calls Tryz.prog 35 #[.int .i64 k, .int .i64 n] W fun r w => r = .returned (.int .i64 (plv k n)) ∧ w = W := by
  have h0 : n ≠ 0 := by omega
  have h0' : (n == 0) = false := by simpa using h0
  have ht := tmod_in k n hn
  have hP : Aside0 (plv k n = if k.tmod n < 0 then k.tmod n + n else k.tmod n) := ⟨rfl⟩
  have hw : IntKind.i64.wrap (k.tmod n) = k.tmod n := IntWalk.i64_in _ (by omega)
  generalize hm : k.tmod n = m at ht hP hw
  by_cases hlt : m < 0
  · have hd : decide (m < 0) = true := decide_eq_true hlt
    have hw2 : IntKind.i64.wrap (m + n) = m + n := IntWalk.i64_in _ (by omega)
    go_enter Tryz.func35, Tryz.ntmps35
    go_wp2
    go_ret
    exact ⟨by rw [hP.out, if_pos hlt]; rfl, rfl⟩
  · have hd : decide (m < 0) = false := decide_eq_false hlt
    go_enter Tryz.func35, Tryz.ntmps35
    go_wp2
    go_ret
    exact ⟨by rw [hP.out, if_neg (Int.not_lt.2 hlt)]; rfl, rfl⟩
end Cli

namespace Cli
open Msg Go.Proofs.YtepkaaplhcbkbaaGreat.H Go.Proofs.YtepkaaplhcbkbaaGreat.Blocks
set_option maxRecDepth 100000
/-- Where the law stands behind the choice of the later configuration. -/
structure Sg (W w : World) (base p b4 : Nat) (id e : Int) (A : Option Addr) (l : List Int) (c : Nat) : Prop where
  cl : Cl w base p id 1 [1, 2, 3] 1 0 none
  x : w.heap[b4]? = some (.cells #[.int .i64 e, .slice A l.length c] 41 (0, 0))
  r : Kd.C (Kd.int .i64) w A l.length l
  hc : l.length ≤ c
  ne : ∀ a, A = some a → a.block ≠ p
  rc : rcfg e l = true
  e2 : 2 ≤ e ∧ e ≤ 1099511627776
  len : l.length ≤ 1048576
  b4 : b4 ≠ p
  base : W.heap.size ≤ base
  bel : Below W.heap.size W w
theorem grown_row (w : World) (g : Nat) (cs : Array Value) : w.grownBy (w.setRow g cs) (some g) := ⟨rfl, rfl, rfl, by simp [World.setRow], fun k _ hn => setRow_other w g k _ (fun h => hn (by rw [h]))⟩
theorem Cl.row {w : World} {base c : Nat} {id e ep nu : Int} {l : List Int} {last : Option Addr} (h : Cl w base c id e l ep nu last) {g : Nat} (hg : g < base) (cs : Array Value) : Cl (w.setRow g cs) base c id e l ep nu last := by
  obtain ⟨A2, c2, hb, hr⟩ := h.out
  have := h.ge
  exact ⟨⟨A2, c2, (setRow_other w g c cs (by omega)).trans hb, R_row hr (grown_row w g cs) (own_far hr hg)⟩, h.ge⟩
theorem sg_new {W w3 : World} {base p b4 : Nat} {id : Int} {cs : Array Value} (cl : Cl w3 base p id 1 [1, 2, 3] 1 0 none) (x : w3.heap[b4]? = some (.cells cs 41 (0, 0))) (hb : b4 < base ∧ W.heap.size ≤ base ∧ W.heap.size ≤ b4) (bel : Below W.heap.size W w3) :
    Sg W ((w3.alloc (.cells #[.int .i64 2] 3)).setRow b4 #[.int .i64 2, .slice (some ⟨w3.heap.size, 0, none⟩) 1 1]) base p b4 id 2 (some ⟨w3.heap.size, 0, none⟩) [2] 1 := by
  have hp := cl.ge
  have hpl := cl.lt
  have hbl := blk_lt x
  refine ⟨(cl.below (below_alloc (Below.refl _ _) _)).row hb.1 _, setRow_heap _ _ _ _ _ (0, 0) (blk_alloc x _), ?_, Nat.le_refl _, ?_, by decide +kernel, by decide, by decide, by omega, hb.2.1, below_setRow (below_alloc bel _) hb.2.2 _⟩
  · exact C_of_blk (k := .i64) (L := [2]) (o := 0) (n := 1) ((setRow_other _ b4 w3.heap.size _ (by omega)).trans (blk_new w3 _)) (by decide) (by decide)
  · intro a ha
    have := Option.some.inj ha
    rw [← this]
    show w3.heap.size ≠ p
    omega
/-- Where the law stands with its reply laid down. -/
structure Sm (W w : World) (base p q b4 bm : Nat) (id e : Int) (l : List Int) (cs : Array Value) (rq : Rq) (ms : Array Value) : Prop where
  cl : Cl w base p id e l e 1 (some ⟨q, 0, none⟩)
  q : w.heap[q]? = some (.cells rq.cells 147 (0, 0))
  m : w.heap[bm]? = some (.cells ms 49 (0, 0))
  x : w.heap[b4]? = some (.cells cs 41 (0, 0))
  ge : W.heap.size ≤ bm
  bel : Below W.heap.size W w
theorem Sm.below {W w w' : World} {base p q b4 bm : Nat} {id e : Int} {l : List Int} {cs : Array Value} {rq : Rq} {ms : Array Value} (h : Sm W w base p q b4 bm id e l cs rq ms) (hB : Below w.heap.size w w') : Sm W w' base p q b4 bm id e l cs rq ms :=
  ⟨h.cl.below hB, blk_below h.q hB, blk_below h.m hB, blk_below h.x hB, h.ge, h.bel.trans (below_weaken' hB h.bel.size)⟩
theorem Sm.set {W w : World} {base p q b4 bm : Nat} {id e : Int} {l : List Int} {cs : Array Value} {rq : Rq} {ms : Array Value} (h : Sm W w base p q b4 bm id e l cs rq ms) (i : Nat) (v : Value) {ms' : Array Value} (he : ms.setIfInBounds i v = ms') : Sm W (w.setCell ⟨bm, i, none⟩ v) base p q b4 bm id e l cs rq ms' := by
  obtain ⟨A, cc, hb, ho⟩ := h.cl.out
  refine ⟨⟨⟨A, cc, blk_far hb (blk_ne hb h.m (by decide)) v, ?_⟩, h.cl.ge⟩, blk_far h.q (blk_ne h.q h.m (by decide)) v, blk_put h.m i v he, blk_far h.x (blk_ne h.x h.m (by decide)) v, h.ge, h.bel.setCell h.ge v⟩
  exact R_row ho (grown_set w bm i v) (fun g hg hh => by cases hg; exact (own_ne (Kd.own_of_R ho) h.m (by decide)) hh.symm)
set_option maxHeartbeats 8000000 in
theorem stale_calls (k : Nat) (W : World) (id back e : Int) (A : Option Addr) (c : Nat) (l : List Int) (hr : Kd.C (Kd.int .i64) W A l.length l) (hc : l.length ≤ c) (hl : l.length ≤ 1048576) (e0 : Int) (hk : hawserref21_CheckConfig.f k e l = some e0) (hz : e0 = 0 → 2 ≤ e → rcfg e l = true ∧ e ≤ 1099511627776 ∧ 1 ≤ l.length) :
    Calls Tryz.prog 9 #[.int .i64 id, .agg #[.int .i64 e, .slice A l.length c], .int .i64 back] W fun r w => r = .returned (.bool true) ∧ Below W.heap.size W w := by
  have HZ := Aside0.mk hz
  have HK := Aside0.mk hk
  have HC := Aside0.mk (Kd.C_alloc hr (.cells #[.int .i64 e, .slice A l.length c] 41))
  have HCC := Aside0.mk hc
  have HX := Aside0.mk (blk_new W (.cells #[.int .i64 e, .slice A l.length c] 41))
  have HB := Aside0.mk (below_alloc (Below.refl W.heap.size W) (.cells #[.int .i64 e, .slice A l.length c] 41))
  have HAL : Aside0 (1 ≤ l.length → ∀ a, A = some a → a.block < W.heap.size) := ⟨fun h1 a ha => by
    obtain ⟨ad, ead, hcell⟩ := cells_of_C hr h1
    have : ad = a := Option.some.inj (ead.symm.trans ha)
    subst this
    obtain ⟨v, hv⟩ : ∃ v, (nums .i64 l)[0]? = some v := ⟨_, List.getElem?_eq_getElem (by rw [nums_length]; omega)⟩
    have := hcell 0 v hv
    cases hb : W.heap[ad.block]? with
    | none =>
      have hb' : W.heap[(ad.add 0).block]? = none := by rw [← hb]; simp only [Addr.add]; split <;> rfl
      simp [World.cell?, hb'] at this
    | some o => exact blk_lt hb⟩
  have HU26 := Aside0.mk Tryz.underlying26
  have HUC := Aside0.mk Tryz.underlying41
  have HIC : Aside0 ((Tryz.prog.info? 41).map (·.size) = some 2) := ⟨by kernel_rfl⟩
  obtain ⟨hp0, hp1⟩ := plv_in id 16 (by decide)
  obtain ⟨pl, hpl⟩ : ∃ pl, pl = plv id 16 := ⟨_, rfl⟩
  rw [← hpl] at hp0 hp1
  have HPL := Aside0.mk hpl
  have hs1 : IntKind.i64.wrap (pl + 1) = pl + 1 := IntWalk.i64_in _ (by omega)
  have hs2 : IntKind.i64.wrap (100 + (pl + 1)) = 100 + (pl + 1) := IntWalk.i64_in _ (by omega)
  clear hr hc hk hz hpl
  go_enter Tryz.func9, Tryz.ntmps9
  go_upto_region 1 with fail
  generalize W.alloc (.cells #[.int .i64 e, .slice A l.length c] 41) = w0 at HC HX HB ⊢
  generalize hg3 : W.heap.size = b4 at HX ⊢
  go_upto_region 5 with (first
    | (go_at_call 35; refine (place_calls _ _ _ (by decide) (by decide)).mono ?_; rintro r w1 ⟨rfl, hw⟩; subst hw; rw [← HPL.out])
    | (go_at_call 37; refine (hawserlaw23_one.calls 1 [1, 2, 3] _ rfl).mono ?_; rintro r w1 ⟨v1, rfl, hR, hb⟩; obtain ⟨A1, cc1, rfl, hcc⟩ := own_sl hR; (have HR1 := Aside0.mk hR); (have HB1 := Aside0.mk (HB.out.trans (below_weaken' hb HB.out.size))); (have HX1 := Aside0.mk (blk_below HX.out hb)); (have HC1 := Aside0.mk (Kd.C_below HC.out hb)); (have HCC1 := Aside0.mk hcc); clear hR hb hcc)
    | (go_at_call 36; refine (new_calls _ (pl + 1) 1 A1 cc1 [1, 2, 3] (by omega) (by omega) (Kd.R_reads' HR1.out).2.2 HCC1.out (by decide) (by rfl)).mono ?_; rintro r w2 ⟨p, rfl, hC, hb⟩; (have HCL := Aside0.mk hC); (have HB2 := Aside0.mk (HB1.out.trans (below_weaken' hb HB1.out.size))); (have HX2 := Aside0.mk (blk_below HX1.out hb)); (have HC2 := Aside0.mk (Kd.C_below HC1.out hb)); clear hC hb)
    | go_in)
  have z0 : w2.cell? ⟨b4, 0, none⟩ = some (.int .i64 e) := blk_cell HX2.out 0
  have HLT : Aside0 (b4 < w1.heap.size ∧ W.heap.size ≤ w1.heap.size ∧ W.heap.size ≤ b4) := ⟨⟨blk_lt HX1.out, HB1.out.size, Nat.le_of_eq hg3⟩⟩
  have HGE : Aside0 (w1.heap.size ≤ p) := ⟨HCL.out.ge⟩
  clear HR1 HB1 HX1 HC1 HX HC HB
  refine Classical.byCases (p := e0 = 0) (fun h0 => ?cA) (fun h0 => ?cB)
  case' cA =>
    refine Classical.byCases (p := e < 2) (fun h2 => ?cC) (fun h2 => ?cD)
    case' cC =>
      have hd2 : decide (e < 2) = true := decide_eq_true h2
      subst h0
      have h0 : True := trivial
      go_upto_region 7 with (first
        | ((with_reducible refine wpList_load_row rfl 41 (.tmp 4) rfl b4 ?_ 41 #[.int .i64 e, .slice A l.length c] (0, 0) _ HX2.out HUC.out ?_ ?_ ?_); (· rfl); (· rfl); (· exact HIC.out))
        | (go_at_call 38; refine (hawserref21_CheckConfig.calls k _ _ _ _ 0 _ HC2.out HCC.out HK.out).mono ?_; rintro r w3 ⟨rfl, hb⟩; (have HX3 := Aside0.mk (blk_below HX2.out hb)); (have HC3 := Aside0.mk (HCL.out.below hb)); (have HR3 := Aside0.mk (Kd.C_below HC2.out hb)); (have HB3 := Aside0.mk (HB2.out.trans (below_weaken' hb HB2.out.size))); (have z3 : w3.cell? ⟨b4, 0, none⟩ = some (.int .i64 e) := blk_cell HX3.out 0); clear hb)
        | ((with_reducible refine wpList_store_row rfl 41 (.tmp 4) (.tmp 48) rfl b4 #[.int .i64 2, .slice (some ⟨w3.heap.size, 0, none⟩) 1 1] ?d1 ?d2 41 #[.int .i64 e, .slice A l.length c] ?c1 ?c2 ?c3 ?c4 ?_); (case d1 => rfl); (case d2 => rfl); (case c1 => exact blk_alloc HX3.out _); (case c2 => exact HIC.out); (case c3 => rfl); (case c4 => kernel_rfl))
        | fail)
      obtain ⟨e', A', l', c', HG⟩ : ∃ (e' : Int) (A' : Option Addr) (l' : List Int) (c' : Nat), Aside0 (Sg W ((w3.alloc (.cells #[.int .i64 2] 3)).setRow b4 #[.int .i64 2, .slice (some ⟨w3.heap.size, 0, none⟩) 1 1]) w1.heap.size p b4 (pl + 1) e' A' l' c') := ⟨_, _, _, _, ⟨sg_new HC3.out HX3.out HLT.out HB3.out⟩⟩
      generalize (w3.alloc (.cells #[.int .i64 2] 3)).setRow b4 #[.int .i64 2, .slice (some ⟨w3.heap.size, 0, none⟩) 1 1] = w5 at HG ⊢
      clear HC3 HX3 HR3 HB3 z3 h0
      clear h2 hd2
    case' cD =>
      have hd2 : decide (e < 2) = false := decide_eq_false h2
      have hz2 := HZ.out h0 (by omega)
      subst h0
      have h0 : True := trivial
      go_upto_region 7 with (first
        | ((with_reducible refine wpList_load_row rfl 41 (.tmp 4) rfl b4 ?_ 41 #[.int .i64 e, .slice A l.length c] (0, 0) _ HX2.out HUC.out ?_ ?_ ?_); (· rfl); (· rfl); (· exact HIC.out))
        | (go_at_call 38; refine (hawserref21_CheckConfig.calls k _ _ _ _ 0 _ HC2.out HCC.out HK.out).mono ?_; rintro r w3 ⟨rfl, hb⟩; (have HX3 := Aside0.mk (blk_below HX2.out hb)); (have HC3 := Aside0.mk (HCL.out.below hb)); (have HR3 := Aside0.mk (Kd.C_below HC2.out hb)); (have HB3 := Aside0.mk (HB2.out.trans (below_weaken' hb HB2.out.size))); (have z3 : w3.cell? ⟨b4, 0, none⟩ = some (.int .i64 e) := blk_cell HX3.out 0); clear hb)
        | fail)
      obtain ⟨e', A', l', c', HG⟩ : ∃ (e' : Int) (A' : Option Addr) (l' : List Int) (c' : Nat), Aside0 (Sg W w3 w1.heap.size p b4 (pl + 1) e' A' l' c') := ⟨e, A, l, c, ⟨HC3.out, HX3.out, HR3.out, HCC.out, fun a ha => by have := HAL.out hz2.2.2 a ha; have := HGE.out; have := HLT.out.2.1; omega, hz2.1, ⟨by omega, hz2.2.1⟩, hl, by have := HLT.out.1; have := HGE.out; omega, HLT.out.2.1, HB3.out⟩⟩
      clear HC3 HX3 HR3 HB3 z3 h0
      generalize w3 = w5 at HG ⊢
      clear h2 hd2 hz2
  case' cB =>
    have hne : (e0 != 0) = true := by simpa using h0
    go_upto_region 7 with (first
      | ((with_reducible refine wpList_load_row rfl 41 (.tmp 4) rfl b4 ?_ 41 #[.int .i64 e, .slice A l.length c] (0, 0) _ HX2.out HUC.out ?_ ?_ ?_); (· rfl); (· rfl); (· exact HIC.out))
      | (go_at_call 38; refine (hawserref21_CheckConfig.calls k _ _ _ _ e0 _ HC2.out HCC.out HK.out).mono ?_; rintro r w3 ⟨rfl, hb⟩; (have HX3 := Aside0.mk (blk_below HX2.out hb)); (have HC3 := Aside0.mk (HCL.out.below hb)); (have HR3 := Aside0.mk (Kd.C_below HC2.out hb)); (have HB3 := Aside0.mk (HB2.out.trans (below_weaken' hb HB2.out.size))); (have z3 : w3.cell? ⟨b4, 0, none⟩ = some (.int .i64 e) := blk_cell HX3.out 0); clear hb)
      | ((with_reducible refine wpList_store_row rfl 41 (.tmp 4) (.tmp 48) rfl b4 #[.int .i64 2, .slice (some ⟨w3.heap.size, 0, none⟩) 1 1] ?d1 ?d2 41 #[.int .i64 e, .slice A l.length c] ?c1 ?c2 ?c3 ?c4 ?_); (case d1 => rfl); (case d2 => rfl); (case c1 => exact blk_alloc HX3.out _); (case c2 => exact HIC.out); (case c3 => rfl); (case c4 => kernel_rfl))
      | fail)
    obtain ⟨e', A', l', c', HG⟩ : ∃ (e' : Int) (A' : Option Addr) (l' : List Int) (c' : Nat), Aside0 (Sg W ((w3.alloc (.cells #[.int .i64 2] 3)).setRow b4 #[.int .i64 2, .slice (some ⟨w3.heap.size, 0, none⟩) 1 1]) w1.heap.size p b4 (pl + 1) e' A' l' c') := ⟨_, _, _, _, ⟨sg_new HC3.out HX3.out HLT.out HB3.out⟩⟩
    generalize (w3.alloc (.cells #[.int .i64 2] 3)).setRow b4 #[.int .i64 2, .slice (some ⟨w3.heap.size, 0, none⟩) 1 1] = w5 at HG ⊢
    clear HC3 HX3 HR3 HB3 z3 h0
    clear hne
  all_goals
    clear HX2 HC2 z0 HB2 HCL HCC HZ HK HAL
    have HX5 := Aside0.mk HG.out.x
    have HCL := Aside0.mk HG.out.cl
    have hb4p := HG.out.b4
    have hR8 : Aside0 (Fm p w5 w5) := ⟨⟨Nat.le_refl _, fun _ _ _ => rfl⟩⟩
    clear hR8
    go_upto_region 9 with (first
      | (go_at_call 27; refine (submit_fm HG.out.cl (by omega) (by omega) (by decide) (by decide) ⟨#[97]⟩ ⟨#[]⟩ ⟨live_key.1, by decide⟩ 1 live_head).mono ?_; rintro r w6 ⟨g, q, rfl, hg, hC, hq, hbg, hbq, hb, hf⟩; (have HC6 := Aside0.mk hC); (have HQ6 := Aside0.mk hq); (have HBQ := Aside0.mk hbq); (have HF6 := Aside0.mk hf); (have HB6 := Aside0.mk (HG.out.bel.trans (below_weaken' hb HG.out.base))); clear hg hC hq hbg hbq hb hf)
      | fail)
    have HX6 := Aside0.mk ((HF6.out.blk b4 (blk_lt HX5.out) hb4p).trans HX5.out)
    have HR6 := Aside0.mk (C_fm HG.out.r HF6.out HG.out.ne)
    clear HCL hb4p HX5
    go_upto_region 10 with (first
      | ((with_reducible refine wpList_load_row rfl 41 (.tmp 4) rfl b4 ?_ 41 #[.int .i64 e', .slice A' l'.length c'] (0, 0) _ HX6.out HUC.out ?_ ?_ ?_); (· rfl); (· rfl); (· exact HIC.out))
      | (go_at_call 29; refine (take_cfg HC6.out HQ6.out (by omega) (by omega) (cfgMsg (100 + (pl + 1)) e' A' l'.length c') l' rfl rfl (by have := HG.out.e2; show 1 < e'; omega) (by have := HG.out.e2; show 1 ≤ e'; omega) HR6.out rfl HG.out.hc (by have := HG.out.len; omega) (fun w hw => check_cfg w _ e' A' c' l' hw HG.out.hc (by omega) (by omega) HG.out.rc (by have := HG.out.len; omega))).mono ?_; rintro r w7 ⟨rfl, hC, hq, hb, hf⟩; (have HC7 := Aside0.mk hC); (have HQ7 := Aside0.mk hq); (have HF7 := Aside0.mk hf); (have HB7 := Aside0.mk (HB6.out.trans (below_weaken' hb HG.out.base))); clear hC hq hb hf)
      | fail)
    have HX7 := Aside0.mk ((HF7.out b4 (blk_lt HX6.out) HG.out.b4).trans HX6.out)
    have HC7' : Aside0 (Cl w7 w1.heap.size p (pl + 1) e' l' e' (0 + 1) (some ⟨q, 0, none⟩)) := ⟨HC7.out⟩
    clear HC6 HQ6 HF6 HB6 HX6 HR6 HF7 HC7
    have b40 : w7.cell? ⟨b4, 0, none⟩ = some (.int .i64 e') := blk_cell HX7.out 0
    have hbe : (e' != e') = false := by simp
    have HEP := Aside0.mk (fun n => epoch_calls (HC7'.out.below (Drawn0.below (⟨n, rfl⟩ : Drawn0 w7 (w7.drewN n)))) (by omega))
    have he2 := HG.out.e2
    go_quiet ((go_at_call 33; exact Calls.quiet_of_same (HEP.out _)))
    go_upto_region 12 with fail
    have hdn : Below w7.heap.size w7 (w7.drewN nq) := Drawn0.below ⟨nq, rfl⟩
    have HC8 := Aside0.mk (HC7'.out.below hdn)
    have HQ8 := Aside0.mk (blk_below HQ7.out hdn)
    have HX8 := Aside0.mk (blk_below HX7.out hdn)
    have HB8 := Aside0.mk (HB7.out.trans (below_weaken' hdn HB7.out.size))
    clear HC7' HQ7 HX7 HB7 hdn b40 HEP hbe
    generalize w7.drewN nq = w8 at HC8 HQ8 HX8 HB8 ⊢
    have b40 : w8.cell? ⟨b4, 0, none⟩ = some (.int .i64 e') := blk_cell HX8.out 0
    obtain ⟨hv0, hv1⟩ := plv_in back (e' - 1) (by omega)
    obtain ⟨pv, hpv⟩ : ∃ pv, pv = plv back (e' - 1) := ⟨_, rfl⟩
    rw [← hpv] at hv0 hv1
    have hs3 : IntKind.i64.wrap (e' - 1) = e' - 1 := IntWalk.i64_in _ (by omega)
    have hs4 : IntKind.i64.wrap (e' - 1 - pv) = e' - 1 - pv := IntWalk.i64_in _ (by omega)
    have HPV : Aside0 (∀ n, Calls Tryz.prog 35 #[.int .i64 back, .int .i64 (e' - 1)] (w8.drewN n) fun r w => r = .returned (.int .i64 pv) ∧ w = w8.drewN n) := ⟨fun n => hpv ▸ place_calls _ back (e' - 1) (by omega) (by omega)⟩
    clear hpv
    go_quiet ((go_at_call 35; exact Calls.quiet_of_same (HPV.out _)))
    go_upto_region 13 with fail
    have hdn : Below w8.heap.size w8 (w8.drewN nq) := Drawn0.below ⟨nq, rfl⟩
    have HC9 := Aside0.mk (HC8.out.below hdn)
    have HQ9 := Aside0.mk (blk_below HQ8.out hdn)
    have HX9 := Aside0.mk (blk_below HX8.out hdn)
    have HB9 := Aside0.mk (HB8.out.trans (below_weaken' hdn HB8.out.size))
    clear HC8 HQ8 HX8 HB8 hdn b40 HPV
    generalize w8.drewN nq = w9 at HC9 HQ9 HX9 HB9 ⊢
    have HUM := Aside0.mk Tryz.underlying49
    go_upto_region 14 with ((with_reducible refine wpList_store_row rfl 49 (.tmp 14) (.tmp 99) rfl w9.heap.size (repMsg 1 (100 + (pl + 1)) (e' - 1 - pv) (pl + 1) 1 1 4).cells ?d1 ?d2 49 zero37 ?c1 ?c2 ?c3 ?c4 ?_); (case d1 => rfl); (case d2 => rfl); (case c1 => exact blk_new w9 _); (case c2 => exact info_msg); (case c3 => rfl); (case c4 => kernel_rfl))
    have HM := Aside0.mk (setRow_heap (w9.alloc (.cells zero37 49)) w9.heap.size zero37 (repMsg 1 (100 + (pl + 1)) (e' - 1 - pv) (pl + 1) 1 1 4).cells 49 (0, 0) (blk_new w9 _))
    have hby := below_setRow (below_alloc (Below.refl w9.heap.size w9) (.cells zero37 49)) (Nat.le_refl _) (repMsg 1 (100 + (pl + 1)) (e' - 1 - pv) (pl + 1) 1 1 4).cells
    have HY := Aside0.mk (show Sm W _ w1.heap.size p q b4 w9.heap.size (pl + 1) e' l' #[.int .i64 e', .slice A' l'.length c'] (updRq (pl + 1) (0 + 1) 1 ⟨#[97]⟩ ⟨#[]⟩ 0) (repMsg 1 (100 + (pl + 1)) (e' - 1 - pv) (pl + 1) 1 1 4).cells from ⟨HC9.out.below hby, blk_below HQ9.out hby, HM.out, blk_below HX9.out hby, HB9.out.size, HB9.out.trans (below_weaken' hby HB9.out.size)⟩)
    clear HC9 HQ9 HX9 HB9 HM hby
    unfold zero37 at HY
    generalize (w9.alloc _).setRow w9.heap.size (repMsg 1 (100 + (pl + 1)) (e' - 1 - pv) (pl + 1) 1 1 4).cells = w10 at HY ⊢
    generalize w9.heap.size = bm at HY ⊢
    go_upto_region 15 with (first
      | ((with_reducible refine wpList_load_row rfl 49 (.tmp 14) rfl bm ?_ 49 (repMsg 1 (100 + (pl + 1)) (e' - 1 - pv) (pl + 1) 1 1 4).cells (0, 0) _ HY.out.m HUM.out ?_ ?_ ?_); (· rfl); (· rfl); (· exact info_msg))
      | (go_at_call 29; refine (take_no HY.out.cl HY.out.q (by omega) (by omega) (repMsg 1 (100 + (pl + 1)) (e' - 1 - pv) (pl + 1) 1 1 4) rfl rfl (.inr (.inr (show e' - 1 - pv < e' by omega))) (fun w => check_rep w _ _ _ _ _ _ _ (by omega) rfl (by omega) (by omega) (by omega) (by omega) (by omega))).mono ?_; rintro r w11 ⟨rfl, hb⟩; (have HY1 := Aside0.mk (HY.out.below hb)); clear hb)
      | fail)
    have z15 : w11.cell? ⟨b4, 0, none⟩ = some (.int .i64 e') := blk_cell HY1.out.x 0
    have v3 : w11.cell? ⟨bm, 3, none⟩ = some (.int .i64 (e' - 1 - pv)) := blk_cell HY1.out.m 3
    have v6 : w11.cell? ⟨bm, 6, none⟩ = some (.int .i64 1) := blk_cell HY1.out.m 6
    have f3 : w11.frozen? ⟨bm, 3, none⟩ = false := blk_frozen HY1.out.m 3
    have f6 : w11.frozen? ⟨bm, 6, none⟩ = false := blk_frozen HY1.out.m 6
    go_upto_region 16 with fail
    have HY2 := Aside0.mk ((HY1.out.set 3 (.int .i64 e') rfl).set 6 (.int .i64 2) (ms' := (repMsg 1 (100 + (pl + 1)) e' (pl + 1) 2 1 4).cells) rfl)
    clear HY HY1 z15 f3 f6 v3 v6
    generalize (w11.setCell ⟨bm, 3, none⟩ (.int .i64 e')).setCell ⟨bm, 6, none⟩ (.int .i64 2) = w12 at HY2 ⊢
    go_upto_region 17 with (first
      | ((with_reducible refine wpList_load_row rfl 49 (.tmp 14) rfl bm ?_ 49 (repMsg 1 (100 + (pl + 1)) e' (pl + 1) 2 1 4).cells (0, 0) _ HY2.out.m HUM.out ?_ ?_ ?_); (· rfl); (· rfl); (· exact info_msg))
      | (go_at_call 29; refine (take_no HY2.out.cl HY2.out.q (by omega) (by omega) (repMsg 1 (100 + (pl + 1)) e' (pl + 1) 2 1 4) rfl rfl (.inr (.inl (show (2 : Int) ≠ 0 + 1 by decide))) (fun w => check_rep w _ _ _ _ _ _ _ (by omega) rfl (by omega) (by omega) (by omega) (by omega) (by omega))).mono ?_; rintro r w13 ⟨rfl, hb⟩; (have HY3 := Aside0.mk (HY2.out.below hb)); clear hb)
      | fail)
    have v6 : w13.cell? ⟨bm, 6, none⟩ = some (.int .i64 2) := blk_cell HY3.out.m 6
    have f6 : w13.frozen? ⟨bm, 6, none⟩ = false := blk_frozen HY3.out.m 6
    go_upto_region 18 with fail
    have HY4 := Aside0.mk (HY3.out.set 6 (.int .i64 1) (ms' := (repMsg 1 (100 + (pl + 1)) e' (pl + 1) 1 1 4).cells) rfl)
    clear HY2 HY3 f6 v6
    generalize w13.setCell ⟨bm, 6, none⟩ (.int .i64 1) = w14 at HY4 ⊢
    have HNP : Aside0 (bm ≠ p) := ⟨by obtain ⟨A0, cc0, hb0, _⟩ := HY4.out.cl.out; exact blk_ne HY4.out.m hb0 (by decide)⟩
    have HNQ : Aside0 (bm ≠ q) := ⟨blk_ne HY4.out.m HY4.out.q (by decide)⟩
    go_upto_region 19 with (first
      | ((with_reducible refine wpList_load_row rfl 49 (.tmp 14) rfl bm ?_ 49 (repMsg 1 (100 + (pl + 1)) e' (pl + 1) 1 1 4).cells (0, 0) _ HY4.out.m HUM.out ?_ ?_ ?_); (· rfl); (· rfl); (· exact info_msg))
      | (go_at_call 29; refine (take_calls HY4.out.cl HY4.out.q HBQ.out (by omega) (by omega) (repMsg 1 (100 + (pl + 1)) e' (pl + 1) 1 1 4) rfl rfl rfl (Int.le_refl _) rfl rfl HY4.out.m HNP.out HNQ.out (fun w => check_rep w _ _ _ _ _ _ _ (by omega) rfl (by omega) (by omega) (by omega) (by omega) (by omega))).mono ?_; rintro r w15 ⟨rfl, hC, hq, hb, hm⟩; (have HC15 := Aside0.mk hC); (have HQ15 := Aside0.mk hq); (have HM15 := Aside0.mk hm); (have HB15 := Aside0.mk (HY4.out.bel.trans (below_weaken' hb HG.out.base))); clear hC hq hb hm)
      | fail)
    clear HY4
    have HC15' : Aside0 (Cl w15 w1.heap.size p (pl + 1) e' l' e' 1 (some ⟨q, 0, none⟩)) := ⟨HC15.out⟩
    clear HC15
    go_upto_region 20 with (first
      | ((with_reducible refine wpList_load_row rfl 49 (.tmp 14) rfl bm ?_ 49 (repMsg 1 (100 + (pl + 1)) e' (pl + 1) 1 1 4).cells (0, 0) _ HM15.out HUM.out ?_ ?_ ?_); (· rfl); (· rfl); (· exact info_msg))
      | (go_at_call 29; refine (take_no HC15'.out HQ15.out (by omega) (by omega) (repMsg 1 (100 + (pl + 1)) e' (pl + 1) 1 1 4) rfl rfl (.inl rfl) (fun w => check_rep w _ _ _ _ _ _ _ (by omega) rfl (by omega) (by omega) (by omega) (by omega) (by omega))).mono ?_; rintro r w16 ⟨rfl, hb⟩; (have HC16 := Aside0.mk (HC15'.out.below hb)); (have HQ16 := Aside0.mk (blk_below HQ15.out hb)); (have HB16 := Aside0.mk (HB15.out.trans (below_weaken' hb HB15.out.size))); clear hb)
      | fail)
    clear HC15' HQ15 HM15 HB15
    have HI77 : Aside0 ((Tryz.prog.info? 77).map (·.size) = some 16) := ⟨by kernel_rfl⟩
    go_upto_region 21 with (first
      | (go_at_call 30; refine (last1_calls HC16.out HQ16.out (by omega)).mono ?_; rintro r w17 ⟨rfl, hb⟩; (have HB17 := Aside0.mk (HB16.out.trans (below_weaken' hb HB16.out.size))); clear hb)
      | ((with_reducible refine wpList_store_row rfl 77 (.tmp 22) (.tmp 132) rfl w17.heap.size ((updRq (pl + 1) (0 + 1) 1 ⟨#[97]⟩ ⟨#[]⟩ 0).replied 1 4).call ?d1 ?d2 77 zero16 ?c1 ?c2 ?c3 ?c4 ?_); (case d1 => rfl); (case d2 => rfl); (case c1 => exact blk_new w17 _); (case c2 => exact HI77.out); (case c3 => rfl); (case c4 => kernel_rfl))
      | fail)
    have hge17 : Below W.heap.size W w17 := HB17.out
    have HCR := Aside0.mk (setRow_heap (w17.alloc (.cells zero16 77)) w17.heap.size zero16 ((updRq (pl + 1) 1 1 ⟨#[97]⟩ ⟨#[]⟩ 0).replied 1 4).call 77 (0, 0) (blk_new w17 _))
    have HBR := Aside0.mk (below_setRow (below_alloc hge17 (.cells zero16 77)) hge17.size ((updRq (pl + 1) 1 1 ⟨#[97]⟩ ⟨#[]⟩ 0).replied 1 4).call)
    clear hge17
    unfold zero16 at HCR HBR
    generalize (w17.alloc _).setRow w17.heap.size ((updRq (pl + 1) 1 1 ⟨#[97]⟩ ⟨#[]⟩ 0).replied 1 4).call = w18 at HCR HBR ⊢
    generalize w17.heap.size = bl at HCR ⊢
    have c11 : w18.cell? ⟨bl, 11, none⟩ = some (.int .i64 4) := blk_cell HCR.out 11
    have hdn1 : ((updRq (pl + 1) 1 1 ⟨#[97]⟩ ⟨#[]⟩ 0).replied 1 4).dn = true := rfl
    have hdn2 : ((updRq (pl + 1) 1 1 ⟨#[97]⟩ ⟨#[]⟩ 0).replied (repMsg 1 (100 + (pl + 1)) e' (pl + 1) 1 1 4).rc (repMsg 1 (100 + (pl + 1)) e' (pl + 1) 1 1 4).rv).dn = true := rfl
    go_wp2
    go_ret
    exact ⟨rfl, HBR.out⟩
end Cli

end Go.Proofs.YtepkaaplhcbkbaaGreat.G
