import Derived.Test.YtepkaaplhcbkbaaGreatT0
import Derived.Deep.Upon
import Derived.Deep.QuietTactic
import Derived.BigQuiet
import Derived.Deep.RegionHeld3
import Derived.Deep.DeepCutAuto
import Derived.Deep.CutBlock
import Derived.Laws.EntriesVeiled
import Derived.StillTailTactics
import Derived.Laws.Tables
import Derived.Laws.CopyOwn
import Derived.Test.YtepkaaplhcbkbaaGreatBlocks
import Derived.Laws.CopyOwn
import Derived.Laws.Tables
import Derived.Outline
namespace Go.Proofs.YtepkaaplhcbkbaaGreat.G
open Go.RowKit Go.Proofs.YtepkaaplhcbkbaaGreatW.PrintWords Go.Proofs.YtepkaaplhcbkbaaGreatW.PrintLast Go.Proofs.YtepkaaplhcbkbaaGreatW.PrintMore
set_option linter.unusedVariables false
set_option linter.unusedSimpArgs false
namespace Msg
theorem below_weaken' {B B' : Nat} {a b : World} (h : Below B' a b) (hb : B ≤ B') : Below B a b := ⟨h.os, h.tape, h.output, h.size, fun k hk => h.block k (by omega)⟩
/-- A message's parts, as they lie in its cells. -/
structure Mg where
  kd : Int
  fr : Int
  tt : Int
  ep : Int
  att : Int
  cl : Int
  nu : Int
  sq : Int
  key : ByteArray
  ok : Int
  okey : ByteArray
  oval : ByteArray
  over : Int
  us : Int
  ucl : Int
  un : Int
  uk : Int
  ukey : ByteArray
  uval : ByteArray
  uver : Int
  rc : Int
  rv : Int
  wkey : ByteArray
  wval : ByteArray
  wver : Int
  fd : Bool
  ce : Int
  chA : Option Addr
  chN : Nat
  chC : Nat
  lv : Int
  bkA : Option Addr
  bkN : Nat
  bkC : Nat
  dgA : Option Addr
  dgN : Nat
  dgC : Nat
  ix : Int
  la : Bool
  pcA : Option Addr
  pcN : Nat
  pcC : Nat
  t1 : Int
  t2 : Int
  t3 : Int
def Mg.cells (m : Mg) : Array Value := #[.int .i64 m.kd, .int .i64 m.fr, .int .i64 m.tt, .int .i64 m.ep, .int .i64 m.att, .int .i64 m.cl, .int .i64 m.nu, .int .i64 m.sq, .string m.key, .int .i64 m.ok, .string m.okey, .string m.oval, .int .i64 m.over, .int .i64 m.us, .int .i64 m.ucl, .int .i64 m.un, .int .i64 m.uk, .string m.ukey, .string m.uval, .int .i64 m.uver, .int .i64 m.rc, .int .i64 m.rv, .string m.wkey, .string m.wval, .int .i64 m.wver, .bool m.fd, .int .i64 m.ce, .slice m.chA m.chN m.chC, .int .i64 m.lv, .slice m.bkA m.bkN m.bkC, .slice m.dgA m.dgN m.dgC, .int .i64 m.ix, .bool m.la, .slice m.pcA m.pcN m.pcC, .int .i64 m.t1, .int .i64 m.t2, .int .i64 m.t3]
theorem Mg.size (m : Mg) : m.cells.size = 37 := rfl
/-- A kind of addresses. -/
def plc (a : Int) : Int := if a = 0 then 1 else if 1 ≤ a ∧ a ≤ 8 then 2 else if 100 < a ∧ a ≤ 116 then 3 else 0
set_option maxRecDepth 100000 in
theorem placeOf_calls (a : Int) (W : World) : Calls Tryz.prog 107 #[.int .i64 a] W fun e w' => e = .returned (.int .i64 (plc a)) ∧ w' = W := by
  unfold plc
  by_cases h0 : a = 0
  · subst h0
    go_enter Tryz.func107, Tryz.ntmps107
    go_wp2
    go_ret
    exact ⟨rfl, rfl⟩
  · have hz : (a == 0) = false := by simpa using h0
    rw [if_neg h0]
    by_cases h1 : 1 ≤ a
    · by_cases h8 : a ≤ 8
      · have q1 : decide (1 ≤ a) = true := by simpa using h1
        have q8 : decide (a ≤ 8) = true := by simpa using h8
        rw [if_pos ⟨h1, h8⟩]
        clear h0
        go_enter Tryz.func107, Tryz.ntmps107
        go_wp2
        go_ret
        exact ⟨rfl, rfl⟩
      · have q1 : decide (1 ≤ a) = true := by simpa using h1
        have q8 : decide (a ≤ 8) = false := by simpa using h8
        rw [if_neg (by omega)]
        by_cases h100 : 100 < a
        · by_cases h116 : a ≤ 116
          · have r1 : decide (100 < a) = true := by simpa using h100
            have r2 : decide (a ≤ 116) = true := by simpa using h116
            rw [if_pos ⟨h100, h116⟩]
            clear h0 h1 h8
            go_enter Tryz.func107, Tryz.ntmps107
            go_wp2
            go_ret
            exact ⟨rfl, rfl⟩
          · have r1 : decide (100 < a) = true := by simpa using h100
            have r2 : decide (a ≤ 116) = false := by simpa using h116
            rw [if_neg (by omega)]
            clear h0 h1 h8
            go_enter Tryz.func107, Tryz.ntmps107
            go_wp2
            go_ret
            exact ⟨rfl, rfl⟩
        · have r1 : decide (100 < a) = false := by simpa using h100
          rw [if_neg (by omega)]
          clear h0 h1 h8
          go_enter Tryz.func107, Tryz.ntmps107
          go_wp2
          go_ret
          exact ⟨rfl, rfl⟩
    · have q1 : decide (1 ≤ a) = false := by simpa using h1
      have r1 : decide (100 < a) = false := by simp; omega
      rw [if_neg (by omega), if_neg (by omega)]
      clear h0
      go_enter Tryz.func107, Tryz.ntmps107
      go_wp2
      go_ret
      exact ⟨rfl, rfl⟩
/-- A call of this function enters it. -/
def Enters (f : FuncId) : Prop := ∀ (args : Array Value) (w : World), Sem.run Tryz.prog (callFunc f args) w = .ok (.enter f args) w
/-- A function that hands back the address of the i-th cell of a message. -/
def Off (f : FuncId) (i : Nat) : Prop := ∀ (b : Nat) (W : World), Calls Tryz.prog f #[.pointer (some ⟨b, 0, none⟩)] W fun e w' => e = .returned (.pointer (some ⟨b, i, none⟩)) ∧ w' = W
theorem ent_epochs : Enters 168 := fun args w => by kernel_rfl
theorem off_epochs : Off 168 3 := fun b W => by
  go_enter Tryz.func168, Tryz.ntmps168
  go_wp2
  go_ret
  exact ⟨rfl, rfl⟩
theorem ent_sinces : Enters 196 := fun args w => by kernel_rfl
theorem off_sinces : Off 196 3 := fun b W => by
  go_enter Tryz.func196, Tryz.ntmps196
  go_wp2
  go_ret
  exact ⟨rfl, rfl⟩
theorem ent_attempts : Enters 207 := fun args w => by kernel_rfl
theorem off_attempts : Off 207 4 := fun b W => by
  go_enter Tryz.func207, Tryz.ntmps207
  go_wp2
  go_ret
  exact ⟨rfl, rfl⟩
theorem ent_attempts0 : Enters 197 := fun args w => by kernel_rfl
theorem off_attempts0 : Off 197 4 := fun b W => by
  go_enter Tryz.func197, Tryz.ntmps197
  go_wp2
  go_ret
  exact ⟨rfl, rfl⟩
theorem ent_clients : Enters 158 := fun args w => by kernel_rfl
theorem off_clients : Off 158 5 := fun b W => by
  go_enter Tryz.func158, Tryz.ntmps158
  go_wp2
  go_ret
  exact ⟨rfl, rfl⟩
theorem ent_numbers : Enters 161 := fun args w => by kernel_rfl
theorem off_numbers : Off 161 6 := fun b W => by
  go_enter Tryz.func161, Tryz.ntmps161
  go_wp2
  go_ret
  exact ⟨rfl, rfl⟩
theorem ent_uptos : Enters 205 := fun args w => by kernel_rfl
theorem off_uptos : Off 205 6 := fun b W => by
  go_enter Tryz.func205, Tryz.ntmps205
  go_wp2
  go_ret
  exact ⟨rfl, rfl⟩
theorem ent_joiners : Enters 227 := fun args w => by kernel_rfl
theorem off_joiners : Off 227 6 := fun b W => by
  go_enter Tryz.func227, Tryz.ntmps227
  go_wp2
  go_ret
  exact ⟨rfl, rfl⟩
theorem ent_seqs : Enters 204 := fun args w => by kernel_rfl
theorem off_seqs : Off 204 7 := fun b W => by
  go_enter Tryz.func204, Tryz.ntmps204
  go_wp2
  go_ret
  exact ⟨rfl, rfl⟩
theorem ent_levels : Enters 217 := fun args w => by kernel_rfl
theorem off_levels : Off 217 28 := fun b W => by
  go_enter Tryz.func217, Tryz.ntmps217
  go_wp2
  go_ret
  exact ⟨rfl, rfl⟩
/-- What 'whole' makes: the closures of a number from lo to hi, whose address f tells. -/
def WholeV (a b c : Nat) : Value := .agg #[.func (.func 259) #[] #[.pointer (some ⟨c, 0, none⟩), .pointer (some ⟨b, 0, none⟩)], .func (.func 260) #[] #[.pointer (some ⟨b, 0, none⟩), .pointer (some ⟨c, 0, none⟩)], .func (.func 261) #[] #[.pointer (some ⟨c, 0, none⟩), .pointer (some ⟨a, 0, none⟩), .pointer (some ⟨b, 0, none⟩)], .func (.func 262) #[] #[.pointer (some ⟨c, 0, none⟩)]]
structure WholeB (W : World) (f : FuncId) (lo hi : Int) (a b c : Nat) : Prop where
  a : W.heap[a]? = some (.cells #[.int .i64 lo] 3 (0, 0))
  b : W.heap[b]? = some (.cells #[.int .i64 hi] 3 (0, 0))
  c : W.heap[c]? = some (.cells #[.func (.func f) #[] #[]] 237 (0, 0))
set_option maxRecDepth 100000 in
theorem whole_calls (lo hi : Int) (f : FuncId) (W : World) : Calls Tryz.prog 157 #[.int .i64 lo, .int .i64 hi, .func (.func f) #[] #[]] W fun e w' => ∃ a b c, e = .returned (WholeV a b c) ∧ WholeB w' f lo hi a b c ∧ W.heap.size ≤ a ∧ W.heap.size ≤ b ∧ W.heap.size ≤ c ∧ Below W.heap.size W w' := by
  go_enter Tryz.func157, Tryz.ntmps157
  go_wp2
  refine bodyPost_ret (v := WholeV W.heap.size (W.heap.size + 1) (W.heap.size + 1 + 1)) (by simp [results, Tryz.results157, go_sem, WholeV]) rfl ?_
  refine ⟨_, _, _, rfl, ⟨blk_alloc (blk_alloc (blk_alloc (blk_new _ _) _) _) _, blk_alloc (blk_alloc (by have := blk_new (W.alloc (Obj.cells #[Value.int IntKind.i64 lo] 3)) (Obj.cells #[Value.int IntKind.i64 hi] 3); rwa [World.size_alloc] at this) _) _, blk_alloc (by have := blk_new ((W.alloc (Obj.cells #[Value.int IntKind.i64 lo] 3)).alloc (Obj.cells #[Value.int IntKind.i64 hi] 3)) (Obj.cells #[Value.func (Fn.func f) #[] #[]] 237); rwa [World.size_alloc, World.size_alloc] at this) _⟩, Nat.le_refl _, by omega, by omega, below_alloc (below_alloc (below_alloc (below_alloc (Below.refl _ _) _) _) _) _⟩
set_option maxRecDepth 100000 in
theorem whole3_calls {f : FuncId} {i : Nat} (hf : Off f i) (he : Enters f) {W : World} {lo hi : Int} {a b c : Nat} (hw : WholeB W f lo hi a b c) (m : Mg) (x : Int) (hx : m.cells[i]? = some (.int .i64 x)) :
    Calls Tryz.prog 261 #[.agg m.cells, .pointer (some ⟨c, 0, none⟩), .pointer (some ⟨a, 0, none⟩), .pointer (some ⟨b, 0, none⟩)] W fun e w' => e = .returned (.bool (decide (lo ≤ x ∧ x ≤ hi))) ∧ Below W.heap.size W w' := by
  have ha : ∀ o n, ((W.alloc o).drewN n).cell? ⟨a, 0, none⟩ = some (.int .i64 lo) := fun o n => blk_cell (w := (W.alloc o).drewN n) (blk_drewN (blk_alloc hw.a _) _) 0
  have hb : ∀ o n, ((W.alloc o).drewN n).cell? ⟨b, 0, none⟩ = some (.int .i64 hi) := fun o n => blk_cell (w := (W.alloc o).drewN n) (blk_drewN (blk_alloc hw.b _) _) 0
  have hc : ∀ o n, ((W.alloc o).drewN n).cell? ⟨c, 0, none⟩ = some (.func (.func f) #[] #[]) := fun o n => blk_cell (w := (W.alloc o).drewN n) (blk_drewN (blk_alloc hw.c _) _) 0
  have hxx : ∀ n, ((W.alloc (.cells m.cells 49)).drewN n).cell? ⟨W.heap.size, i, none⟩ = some (.int .i64 x) := fun n => (blk_cell (w := (W.alloc (.cells m.cells 49)).drewN n) (blk_drewN (blk_new _ _) _) i).trans hx
  have hB : Below W.heap.size W (W.alloc (.cells m.cells 49)) := below_alloc (Below.refl _ _) _
  have hcf : ∀ (args : Array Value) (w : World), Sem.run Tryz.prog (callFunc f args) w = .ok (.enter f args) w := he
  by_cases h1 : lo ≤ x
  · by_cases h2 : x ≤ hi
    · have q1 : decide (lo ≤ x) = true := by simpa using h1
      have q2 : decide (x ≤ hi) = true := by simpa using h2
      rw [decide_eq_true (show lo ≤ x ∧ x ≤ hi from ⟨h1, h2⟩)]
      clear hx hw h1 h2
      go_enter Tryz.func261, Tryz.ntmps261
      go_wp2
      go_quiet ((exact Calls.quiet_of_same (hf _ _)))
      go_wp2
      go_ret
      exact ⟨rfl, hB.trans (below_weaken' (Drawn0.below ⟨_, rfl⟩) (by rw [World.size_alloc]; omega))⟩
    · have q1 : decide (lo ≤ x) = true := by simpa using h1
      have q2 : decide (x ≤ hi) = false := by simpa using h2
      rw [decide_eq_false (show ¬ (lo ≤ x ∧ x ≤ hi) from fun h => h2 h.2)]
      clear hx hw h1 h2
      go_enter Tryz.func261, Tryz.ntmps261
      go_wp2
      go_quiet ((exact Calls.quiet_of_same (hf _ _)))
      go_wp2
      go_ret
      exact ⟨rfl, hB.trans (below_weaken' (Drawn0.below ⟨_, rfl⟩) (by rw [World.size_alloc]; omega))⟩
  · have q1 : decide (lo ≤ x) = false := by simpa using h1
    rw [decide_eq_false (show ¬ (lo ≤ x ∧ x ≤ hi) from fun h => h1 h.1)]
    clear hx hw h1
    go_enter Tryz.func261, Tryz.ntmps261
    go_wp2
    go_quiet ((exact Calls.quiet_of_same (hf _ _)))
    go_wp2
    go_ret
    exact ⟨rfl, hB.trans (below_weaken' (Drawn0.below ⟨_, rfl⟩) (by rw [World.size_alloc]; omega))⟩
/-- One block has been written; the others lie as they lay. -/
structure Put (W w' : World) (to_ : Nat) (cs : Array Value) : Prop where
  os : w'.os = W.os
  tape : w'.tape = W.tape
  output : w'.output = W.output
  size : W.heap.size ≤ w'.heap.size
  here : w'.heap[to_]? = some (.cells cs 49 (0, 0))
  block : ∀ k, k < W.heap.size → k ≠ to_ → w'.heap[k]? = W.heap[k]?
set_option maxRecDepth 100000 in
theorem whole4_calls {f : FuncId} {i : Nat} (hf : Off f i) (he : Enters f) {W : World} {c : Nat} (hc0 : W.heap[c]? = some (.cells #[.func (.func f) #[] #[]] 237 (0, 0))) (m : Mg) (x : Int) (hx : m.cells[i]? = some (.int .i64 x)) (to_ : Nat) (cs : Array Value) (y : Value) (ht : W.heap[to_]? = some (.cells cs 49 (0, 0))) (hy : cs[i]? = some y) :
    Calls Tryz.prog 262 #[.agg m.cells, .pointer (some ⟨to_, 0, none⟩), .pointer (some ⟨c, 0, none⟩)] W fun e w' => e = .returned (.tuple #[]) ∧ Put W w' to_ (cs.setIfInBounds i (.int .i64 x)) := by
  have hne : to_ ≠ W.heap.size := Nat.ne_of_lt (blk_lt ht)
  have hcf : ∀ (args : Array Value) (w : World), Sem.run Tryz.prog (callFunc f args) w = .ok (.enter f args) w := he
  go_enter Tryz.func262, Tryz.ntmps262
  go_wp2
  have hc : (W.alloc (.cells m.cells 49)).cell? ⟨c, 0, none⟩ = some (.func (.func f) #[] #[]) := blk_cell (blk_alloc hc0 _) 0
  have hxx : (W.alloc (.cells m.cells 49)).cell? ⟨W.heap.size, i, none⟩ = some (.int .i64 x) := (blk_cell (blk_new _ _) i).trans hx
  have hyy : (W.alloc (.cells m.cells 49)).cell? ⟨to_, i, none⟩ = some y := (blk_cell (blk_alloc ht _) i).trans hy
  have hfr : (W.alloc (.cells m.cells 49)).frozen? ⟨to_, i, none⟩ = false := blk_frozen (blk_alloc ht _) i
  have htt := Aside0.mk (blk_alloc ht (.cells m.cells 49))
  have hss : Aside0 ((W.alloc (.cells m.cells 49)).heap.size = W.heap.size + 1) := ⟨World.size_alloc _ _⟩
  have hkk : Aside0 (∀ k, k < W.heap.size → (W.alloc (.cells m.cells 49)).heap[k]? = W.heap[k]?) := ⟨fun k hk => heap_alloc_old _ _ hk⟩
  have hos : Aside0 ((W.alloc (.cells m.cells 49)).os = W.os ∧ (W.alloc (.cells m.cells 49)).tape = W.tape ∧ (W.alloc (.cells m.cells 49)).output = W.output) := ⟨⟨rfl, rfl, rfl⟩⟩
  clear hc0 hx ht hy
  generalize W.alloc (.cells m.cells 49) = w1 at hc hxx hyy hfr htt hss hkk hos ⊢
  go_still_tail 8, (by kernel_rfl)
  still_call (hf _ _)
  repeat still_step
  still_call (hf _ _)
  repeat still_step
  refine wpStill_nil ?_
  change wpList _ _ _ _ _ w1.drew
  have hyd : w1.drew.cell? ⟨to_, i, none⟩ = some y := hyy
  have hfd : w1.drew.frozen? ⟨to_, i, none⟩ = false := hfr
  have HT := Aside0.mk (show w1.drew.heap[to_]? = some (.cells cs 49 (0, 0)) from htt.out)
  have HS := Aside0.mk (show w1.drew.heap.size = W.heap.size + 1 from hss.out)
  have HK := Aside0.mk (show ∀ k, k < W.heap.size → w1.drew.heap[k]? = W.heap[k]? from hkk.out)
  have HO := Aside0.mk (show w1.drew.os = W.os ∧ w1.drew.tape = W.tape ∧ w1.drew.output = W.output from hos.out)
  clear hc hxx hyy hfr htt hss hkk hos
  generalize w1.drew = w2 at hyd hfd HT HS HK HO ⊢
  go_wp2
  go_end0
  refine ⟨rfl, ⟨HO.out.1, HO.out.2.1, HO.out.2.2, ?_, blk_set HT.out i _, fun k hk hn => ?_⟩⟩
  · show W.heap.size ≤ (w2.setCell _ _).heap.size
    rw [World.setCell]
    simp [HS.out]
  · rw [Below.heap_setCell w2 ⟨to_, i, none⟩ _ k hn]
    exact HK.out k hk
end Msg

end Go.Proofs.YtepkaaplhcbkbaaGreat.G
