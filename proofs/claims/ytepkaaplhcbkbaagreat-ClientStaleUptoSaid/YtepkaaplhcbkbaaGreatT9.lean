import Derived.Test.YtepkaaplhcbkbaaGreatT8
import Derived.Test.YtepkaaplhcbkbaaGreatGx6
import Derived.Deep.Upon
import Derived.Deep.QuietTactic
import Derived.BigQuiet
import Derived.Deep.RegionHeld3
import Derived.Deep.DeepCutAuto
import Derived.Deep.CutBlock
import Derived.Laws.EntriesVeiled
import Derived.StillTailTactics
import Derived.Laws.Tables
import Derived.Laws.CopyOwn
import Derived.IntWalk
import Derived.Test.YtepkaaplhcbkbaaGreatBlocks
import Derived.Laws.CopyOwn
import Derived.Laws.Tables
import Derived.Outline
namespace Go.Proofs.YtepkaaplhcbkbaaGreat.G
open Go.RowKit Go.Proofs.YtepkaaplhcbkbaaGreatW.PrintWords Go.Proofs.YtepkaaplhcbkbaaGreatW.PrintLast Go.Proofs.YtepkaaplhcbkbaaGreatW.PrintMore
set_option linter.unusedVariables false
set_option linter.unusedSimpArgs false
namespace Cli
open Msg
/-- A client: its block, what lies in it, and its chain, a row of its own. -/
structure Cl (W : World) (base c : Nat) (id e : Int) (ch : List Int) (ep nu : Int) (last : Option Addr) : Prop where
  out : ∃ A cc, W.heap[c]? = some (.cells #[.int .i64 id, .int .i64 e, .slice A ch.length cc, .int .i64 ep, .int .i64 nu, .pointer last] 68 (0, 0)) ∧ Kd.R (Kd.int .i64) 3 W base (fun _ => True) (.slice A ch.length cc) ch
  ge : base ≤ c
theorem Cl.lt {W : World} {base c : Nat} {id e ep nu : Int} {ch : List Int} {last : Option Addr} (h : Cl W base c id e ch ep nu last) : c < W.heap.size := by
  obtain ⟨A, cc, hb, _⟩ := h.out
  exact blk_lt hb
theorem R_below {W W' : World} {base : Nat} {v : Value} {xs : List Int} (h : Kd.R (Kd.int .i64) 3 W base (fun _ => True) v xs) (hB : Below W.heap.size W W') : Kd.R (Kd.int .i64) 3 W' base (fun _ => True) v xs := by
  have hg : W.grownBy W' none := ⟨hB.os, hB.tape, hB.output, hB.size, fun k hk _ => hB.block k hk⟩
  refine Kd.R_of_own ?_ (fun _ _ => trivial)
  refine World.ownsRow.kept (Kd.own_of_R h) hg ?_
  cases e : v.ownBlock with
  | none => exact .inl rfl
  | some g => exact .inr (by intro h'; cases h')
theorem Cl.below {W W' : World} {base c : Nat} {id e ep nu : Int} {ch : List Int} {last : Option Addr} (h : Cl W base c id e ch ep nu last) (hB : Below W.heap.size W W') : Cl W' base c id e ch ep nu last := by
  obtain ⟨A, cc, hb, ho⟩ := h.out
  exact ⟨⟨A, cc, blk_below hb hB, R_below ho hB⟩, h.ge⟩
theorem own_f (e : Int) (l : List Int) (h : l.length ≤ 1099511627776) : client_own.f e l = some (e, l) := by
  rw [client_own.f, slices_Clone_int_int.f, if_pos h]; rfl
theorem own_sl {W : World} {base : Nat} {v : Value} {xs : List Int} (h : Kd.R (Kd.int .i64) 3 W base (fun _ => True) v xs) : ∃ A cc, v = .slice A xs.length cc ∧ xs.length ≤ cc := by
  have ho := Kd.own_of_R h
  rcases ho.2 with ⟨e, h0⟩ | ⟨g, cap, cur, e, _, _, h1, _⟩
  · rw [e, h0]; exact ⟨none, 0, rfl, Nat.le_refl _⟩
  · exact ⟨_, _, e, h1⟩
set_option maxRecDepth 100000 in
set_option maxHeartbeats 1000000 in
theorem new_calls (W : World) (id e : Int) (A : Option Addr) (c : Nat) (l : List Int) (h1 : 1 ≤ id) (h16 : id ≤ 16) (hr : Kd.C (Kd.int .i64) W A l.length l) (hc : l.length ≤ c) (hl : l.length ≤ 1099511627776) (hk : config_Check.f e l = some 0) :
    Calls Tryz.prog 36 #[.int .i64 id, .agg #[.int .i64 e, .slice A l.length c]] W fun r w => ∃ p, r = .returned (.tuple #[.pointer (some ⟨p, 0, none⟩), .int .i64 0]) ∧ Cl w W.heap.size p id e l e 0 none ∧ Below W.heap.size W w := by
  have b1 : decide (id < 1) = false := decide_eq_false (by omega)
  have b2 : decide (16 < id) = false := decide_eq_false (by omega)
  have HB := Aside0.mk (below_alloc (Below.refl W.heap.size W) (.cells #[.int .i64 e, .slice A l.length c] 41))
  have HR := Aside0.mk (Kd.C_alloc hr (.cells #[.int .i64 e, .slice A l.length c] 41))
  have HC := Aside0.mk hc
  have HK := Aside0.mk hk
  have HO := Aside0.mk (own_f e l hl)
  clear hr hc hk h1 h16
  go_enter Tryz.func36, Tryz.ntmps36
  go_wp2_with (first | (go_at_call 74; refine (config_Check.calls _ _ _ _ 0 _ HR.out HC.out HK.out).mono ?_; rintro r w1 ⟨rfl, hb⟩; (have HR1 := Aside0.mk (Kd.C_below HR.out hb)); (have HB1 := Aside0.mk (HB.out.trans (below_weaken' hb HB.out.size))); (have HX1 := Aside0.mk (blk_below (blk_new W _) hb)); clear hb) | go_in)
  have x0 : w1.cell? ⟨W.heap.size, 0, none⟩ = some (.int .i64 e) := blk_cell HX1.out 0
  have x1 : w1.cell? ⟨W.heap.size, 1, none⟩ = some (.slice A l.length c) := blk_cell HX1.out 1
  go_region_held3 (fun w' => w'.cell? ⟨W.heap.size, 0, none⟩ = some (.int .i64 e) ∧ w'.cell? ⟨W.heap.size, 1, none⟩ = some (.slice A l.length c)) (go_keep) ((go_at_call 71; refine (client_own.calls e A c l e l _ (Kd.C_drewN HR1.out 1) HC.out HO.out).mono ?_; rintro r w2 ⟨v1, rfl, ho, hb⟩; obtain ⟨A2, cc2, rfl, hcc2⟩ := own_sl ho; (have hcx : w2.cell? ⟨W.heap.size, 0, none⟩ = some (.int .i64 e) := blk_cell (blk_below (blk_drew HX1.out) hb) 0); (have hcy : w2.cell? ⟨W.heap.size, 1, none⟩ = some (.slice A l.length c) := blk_cell (blk_below (blk_drew HX1.out) hb) 1)))
  all_goals
    go_wp2
    go_ret2
    have h1 : Below W.heap.size W w1.drew := HB1.out.trans (below_weaken' (Drawn0.below ⟨1, rfl⟩) HB1.out.size)
    have h2 : Below W.heap.size W w2 := h1.trans (below_weaken' hb h1.size)
    refine ⟨_, rfl, ⟨⟨A2, cc2, blk_new _ _, ?_⟩, h2.size⟩, h2.alloc h2.size _⟩
    exact R_below (Kd.R_lower ho h1.size) (below_alloc (Below.refl _ _) _)
/-- A request: what lies in its block. -/
structure Rq where
  cl : Int
  nu : Int
  rd : Bool
  key : ByteArray
  ok : Int
  okey : ByteArray
  oval : ByteArray
  over : Int
  bg : Int
  en : Int
  rc : Int
  rv : Int
  rkey : ByteArray
  rval : ByteArray
  rver : Int
  fd : Bool
  nd : Int
  dn : Bool
def Rq.call (q : Rq) : Array Value := #[.int .i64 q.cl, .int .i64 q.nu, .bool q.rd, .string q.key, .int .i64 q.ok, .string q.okey, .string q.oval, .int .i64 q.over, .int .i64 q.bg, .int .i64 q.en, .int .i64 q.rc, .int .i64 q.rv, .string q.rkey, .string q.rval, .int .i64 q.rver, .bool q.fd]
def Rq.cells (q : Rq) : Array Value := #[.int .i64 q.cl, .int .i64 q.nu, .bool q.rd, .string q.key, .int .i64 q.ok, .string q.okey, .string q.oval, .int .i64 q.over, .int .i64 q.bg, .int .i64 q.en, .int .i64 q.rc, .int .i64 q.rv, .string q.rkey, .string q.rval, .int .i64 q.rver, .bool q.fd, .int .i64 q.nd, .bool q.dn]
set_option maxRecDepth 100000 in
theorem is_calls {W : World} {base c : Nat} {id e ep nu : Int} {ch : List Int} {last : Option Addr} (h : Cl W base c id e ch ep nu last) (hi : 1 ≤ id) : Calls Tryz.prog 70 #[.pointer (some ⟨c, 0, none⟩)] W fun r w => r = .returned (.bool true) ∧ w = W := by
  obtain ⟨A, cc, hb, ho⟩ := h.out
  have h0 : W.cell? ⟨c, 0, none⟩ = some (.int .i64 id) := blk_cell hb 0
  have b1 : decide (0 < id) = true := decide_eq_true (by omega)
  clear hb ho h hi
  go_enter Tryz.func70, Tryz.ntmps70
  go_wp2
  go_ret
  exact ⟨rfl, rfl⟩
set_option maxRecDepth 100000 in
theorem waits0_calls {W : World} {base c : Nat} {id e ep nu : Int} {ch : List Int} (h : Cl W base c id e ch ep nu none) (hi : 1 ≤ id) : Calls Tryz.prog 32 #[.pointer (some ⟨c, 0, none⟩)] W fun r w => r = .returned (.bool false) ∧ w = W := by
  have HI := Aside0.mk (fun w (hw : w = W) => is_calls (hw ▸ h : Cl w base c id e ch ep nu none) hi)
  obtain ⟨A, cc, hb, ho⟩ := h.out
  have h5 : W.cell? ⟨c, 5, none⟩ = some (.pointer none) := blk_cell hb 5
  clear hb ho h
  go_enter Tryz.func32, Tryz.ntmps32
  go_wp2_with (first | (go_at_call 70; refine (HI.out _ rfl).mono ?_; rintro r w1 ⟨rfl, rfl⟩) | go_in)
  go_ret
  exact ⟨rfl, rfl⟩
set_option maxRecDepth 100000 in
theorem waits1_calls {W : World} {base c q : Nat} {id e ep nu : Int} {ch : List Int} {rq : Rq} (h : Cl W base c id e ch ep nu (some ⟨q, 0, none⟩)) (hq : W.heap[q]? = some (.cells rq.cells 147 (0, 0))) (hi : 1 ≤ id) : Calls Tryz.prog 32 #[.pointer (some ⟨c, 0, none⟩)] W fun r w => r = .returned (.bool (!rq.dn)) ∧ w = W := by
  have HI := Aside0.mk (fun w (hw : w = W) => is_calls (hw ▸ h : Cl w base c id e ch ep nu (some ⟨q, 0, none⟩)) hi)
  obtain ⟨A, cc, hb, ho⟩ := h.out
  have h5 : W.cell? ⟨c, 5, none⟩ = some (.pointer (some ⟨q, 0, none⟩)) := blk_cell hb 5
  have q17 : W.cell? ⟨q, 17, none⟩ = some (.bool rq.dn) := blk_cell hq 17
  clear hb ho h hq
  go_enter Tryz.func32, Tryz.ntmps32
  go_wp2_with (first | (go_at_call 70; refine (HI.out _ rfl).mono ?_; rintro r w1 ⟨rfl, rfl⟩) | go_in)
  go_ret
  exact ⟨rfl, rfl⟩
set_option maxRecDepth 100000 in
theorem free0_calls {W : World} {base c : Nat} {id e ep nu : Int} {ch : List Int} (h : Cl W base c id e ch ep nu none) (hi : 1 ≤ id) (hn : nu ≠ 1152921504606846976) : Calls Tryz.prog 65 #[.pointer (some ⟨c, 0, none⟩)] W fun r w => r = .returned (.int .i64 0) ∧ w = W := by
  have HI := Aside0.mk (fun w (hw : w = W) => is_calls (hw ▸ h : Cl w base c id e ch ep nu none) hi)
  have HW := Aside0.mk (fun w (hw : w = W) => waits0_calls (hw ▸ h : Cl w base c id e ch ep nu none) hi)
  obtain ⟨A, cc, hb, ho⟩ := h.out
  have h4 : W.cell? ⟨c, 4, none⟩ = some (.int .i64 nu) := blk_cell hb 4
  have b1 : (nu == 1152921504606846976) = false := by simpa using hn
  clear hb ho h hn
  go_enter Tryz.func65, Tryz.ntmps65
  go_wp2_with (first | (go_at_call 70; refine (HI.out _ rfl).mono ?_; rintro r w1 ⟨rfl, hw⟩; subst hw) | (go_at_call 32; refine (HW.out _ rfl).mono ?_; rintro r w1 ⟨rfl, hw⟩; subst hw) | go_in)
  go_ret
  exact ⟨rfl, rfl⟩
end Cli

end Go.Proofs.YtepkaaplhcbkbaaGreat.G
