import Derived.Test.YtepkaaplhcbkbaaGreatProg
import Derived.Test.YtepkaaplhcbkbaaGreatWWords
import Derived.Test.YtepkaaplhcbkbaaGreatWLast
import Derived.Test.YtepkaaplhcbkbaaGreatWTab
import Derived.Test.YtepkaaplhcbkbaaGreatWFour
import Derived.Test.YtepkaaplhcbkbaaGreatWQPut
import Derived.Test.YtepkaaplhcbkbaaGreatWApart
import Derived.Test.YtepkaaplhcbkbaaGreatWArr
import Derived.Test.YtepkaaplhcbkbaaGreatWZeros
import Derived.Test.YtepkaaplhcbkbaaGreatWFoot
import Derived.Test.YtepkaaplhcbkbaaGreatWKept
import Derived.Test.YtepkaaplhcbkbaaGreatWShare
import Derived.Test.YtepkaaplhcbkbaaGreatWN
import Derived.Test.YtepkaaplhcbkbaaGreatWNEv
import Derived.Test.YtepkaaplhcbkbaaGreatWMore
import Derived.Maps.OwnOps
import Derived.WideMake
import Derived.Laws.IdiomRangeMap
import Derived.Test.YtepkaaplhcbkbaaGreatBlocks
import Derived.Laws.CopyOwn
import Derived.Laws.Tables
import Derived.Outline
namespace Go.Proofs.YtepkaaplhcbkbaaGreat.G
open Go.RowKit Go.Proofs.YtepkaaplhcbkbaaGreatW.PrintWords Go.Proofs.YtepkaaplhcbkbaaGreatW.PrintLast Go.Proofs.YtepkaaplhcbkbaaGreatW.PrintMore
set_option linter.unusedVariables false
set_option linter.unusedSimpArgs false
open Go.Proofs.YtepkaaplhcbkbaaGreat.Blocks
def nmT : Nat → ByteArray
  | 0 => ⟨#[114, 101, 113, 117, 101, 115, 116]⟩
  | 1 => ⟨#[114, 101, 112, 108, 121]⟩
  | 2 => ⟨#[114, 101, 97, 100]⟩
  | 3 => ⟨#[118, 97, 108, 117, 101]⟩
  | 4 => ⟨#[119, 114, 111, 110, 103]⟩
  | 5 => ⟨#[108, 111, 111, 107, 117, 112]⟩
  | 6 => ⟨#[99, 111, 110, 102, 105, 103]⟩
  | 7 => ⟨#[97, 100, 111, 112, 116, 101, 100]⟩
  | 8 => ⟨#[102, 111, 114, 119, 97, 114, 100]⟩
  | 9 => ⟨#[97, 99, 107]⟩
  | 10 => ⟨#[113, 117, 101, 114, 121]⟩
  | 11 => ⟨#[97, 110, 115, 119, 101, 114]⟩
  | 12 => ⟨#[106, 111, 105, 110]⟩
  | 13 => ⟨#[98, 101, 103, 105, 110]⟩
  | 14 => ⟨#[111, 112, 101, 110]⟩
  | 15 => ⟨#[111, 112, 101, 110, 101, 100]⟩
  | 16 => ⟨#[112, 114, 111, 98, 101]⟩
  | 17 => ⟨#[100, 105, 103, 101, 115, 116, 115]⟩
  | 18 => ⟨#[119, 97, 110, 116]⟩
  | 19 => ⟨#[99, 104, 117, 110, 107]⟩
  | 20 => ⟨#[103, 111, 116]⟩
  | 21 => ⟨#[100, 101, 108, 116, 97]⟩
  | 22 => ⟨#[99, 97, 117, 103, 104, 116]⟩
  | 23 => ⟨#[97, 98, 111, 114, 116]⟩
  | 24 => ⟨#[114, 101, 97, 100, 121]⟩
  | 25 => ⟨#[112, 114, 101, 112, 97, 114, 101]⟩
  | 26 => ⟨#[112, 114, 101, 112, 97, 114, 101, 100]⟩
  | 27 => ⟨#[99, 97, 110, 99, 101, 108]⟩
  | _ => ⟨#[]⟩
def wsT : Nat → List (Int × Int)
  | 0 => [(3, 2)]
  | 1 => [(2, 3)]
  | 2 => [(3, 2)]
  | 3 => [(2, 3)]
  | 4 => [(2, 3)]
  | 5 => [(2, 1), (3, 1)]
  | 6 => [(1, 2), (1, 3)]
  | 7 => [(2, 1)]
  | 8 => [(2, 2)]
  | 9 => [(2, 2)]
  | 10 => [(2, 2)]
  | 11 => [(2, 2)]
  | 12 => [(2, 1)]
  | 13 => [(1, 2)]
  | 14 => [(2, 2)]
  | 15 => [(2, 2)]
  | 16 => [(2, 2)]
  | 17 => [(2, 2)]
  | 18 => [(2, 2)]
  | 19 => [(2, 2)]
  | 20 => [(2, 2)]
  | 21 => [(2, 2)]
  | 22 => [(2, 2)]
  | 23 => [(2, 2), (2, 1)]
  | 24 => [(2, 1)]
  | 25 => [(1, 2)]
  | 26 => [(2, 1)]
  | 27 => [(1, 2)]
  | _ => []
def fsT : Nat → List FuncId
  | 0 => [84, 85, 86]
  | 1 => [87, 84, 85, 88]
  | 2 => [84, 85, 89]
  | 3 => [87, 84, 85, 90]
  | 4 => [84, 85, 91]
  | 5 => [92, 93]
  | 6 => [91]
  | 7 => [87]
  | 8 => [87, 94]
  | 9 => [87, 95, 96]
  | 10 => [87, 84, 85]
  | 11 => [87, 84, 85, 95]
  | 12 => [85]
  | 13 => [97, 85, 91]
  | 14 => [87, 97, 85, 98]
  | 15 => [97, 85, 99, 100]
  | 16 => [97, 101, 102]
  | 17 => [97, 101, 102, 103]
  | 18 => [97, 104]
  | 19 => [97, 105]
  | 20 => [97, 95]
  | 21 => [97, 94]
  | 22 => [97, 85, 95]
  | 23 => [97]
  | 24 => [97, 85, 95]
  | 25 => [87, 97, 106]
  | 26 => [87, 97, 95]
  | 27 => [87, 97]
  | _ => []
def wcells (l : List (Int × Int)) : List Value := l.flatMap fun p => [.int .i64 p.1, .int .i64 p.2]
/-- A block of ways. -/
def Way (W : World) (g : Nat) (l : List (Int × Int)) : Prop := W.heap[g]? = some (.cells (wcells l).toArray 173 (0, 0))
/-- A block of functions. -/
def Fld (W : World) (g : Nat) (l : List FuncId) : Prop := W.heap[g]? = some (.cells (l.map fun f => Value.func (.func f) #[] #[]).toArray 111 (0, 0))
/-- A line's value: its name, its ways, its fields. -/
def Line (W : World) (b : Nat) (v : Value) (nm : ByteArray) (ws : List (Int × Int)) (fs : List FuncId) : Prop := ∃ g gf, v = .agg #[.string nm, .slice (some ⟨g, 0, none⟩) ws.length ws.length, .slice (some ⟨gf, 0, none⟩) fs.length fs.length] ∧ g ≠ b ∧ gf ≠ b ∧ Way W g ws ∧ Fld W gf fs
/-- The map's first n entries. -/
structure Ents (W : World) (b n : Nat) (es : Array MapEntry) : Prop where
  here : W.heap[b]? = some (.map es n)
  size : es.size = n
  ent : ∀ i e, es[i]? = some e → e.key = .int .i64 ((i : Int) + 1) ∧ Line W b e.val (nmT i) (wsT i) (fsT i)
structure But (b : Nat) (W w' : World) : Prop where
  os : w'.os = W.os
  tape : w'.tape = W.tape
  output : w'.output = W.output
  size : W.heap.size = w'.heap.size
  block : ∀ k, k ≠ b → w'.heap[k]? = W.heap[k]?
theorem Way.step {W w' : World} {g : Nat} {l : List (Int × Int)} (h : Way W g l) (hs : w'.heap[g]? = W.heap[g]?) : Way w' g l := hs.trans h
theorem Way.lt {W : World} {g : Nat} {l : List (Int × Int)} (h : Way W g l) : g < W.heap.size := (Array.getElem?_eq_some_iff.1 h).1
theorem Fld.lt {W : World} {g : Nat} {l : List FuncId} (h : Fld W g l) : g < W.heap.size := (Array.getElem?_eq_some_iff.1 h).1
theorem Line.step {W w' : World} {b : Nat} {v : Value} {nm : ByteArray} {ws : List (Int × Int)} {fs : List FuncId} (h : Line W b v nm ws fs) (hs : ∀ k, k < W.heap.size → k ≠ b → w'.heap[k]? = W.heap[k]?) : Line w' b v nm ws fs := by
  obtain ⟨g, gf, hv, hg, hf, hw, hk⟩ := h
  exact ⟨g, gf, hv, hg, hf, hw.step (hs g hw.lt hg), (hs gf hk.lt hf).trans hk⟩
theorem new2 (v : World) (o o' : Obj) : ((v.alloc o).alloc o').heap[v.heap.size + 1]? = some o' := by
  have := heap_alloc_new (v.alloc o) o'
  rwa [World.size_alloc] at this
theorem Ents.below {W w' : World} {b n : Nat} {es : Array MapEntry} (h : Ents W b n es) (hB : Below W.heap.size W w') : Ents w' b n es :=
  ⟨(hB.block b (Array.getElem?_eq_some_iff.1 h.here).1).trans h.here, h.size, fun i e he => ⟨(h.ent i e he).1, (h.ent i e he).2.step (fun k hk _ => hB.block k hk)⟩⟩
/-- What the making of the map has in hand: n lines are in; the five lists of ways lie in their blocks. -/
structure Li (W0 : World) (b g1 g2 g3 g4 g5 n : Nat) (W : World) : Prop where
  map : ∃ es, Ents W b n es
  w1 : Way W g1 [(3, 2)]
  w2 : Way W g2 [(2, 3)]
  w3 : Way W g3 [(2, 2)]
  w4 : Way W g4 [(2, 1)]
  w5 : Way W g5 [(1, 2)]
  n1 : g1 ≠ b
  n2 : g2 ≠ b
  n3 : g3 ≠ b
  n4 : g4 ≠ b
  n5 : g5 ≠ b
  bel : Below W0.heap.size W0 W
  bge : W0.heap.size ≤ b
section
variable {W0 W w' : World} {b g1 g2 g3 g4 g5 n : Nat}
theorem Li.lt (h : Li W0 b g1 g2 g3 g4 g5 n W) : b < W.heap.size := by
  obtain ⟨es, he⟩ := h.map
  exact (Array.getElem?_eq_some_iff.1 he.here).1
theorem Li.below (h : Li W0 b g1 g2 g3 g4 g5 n W) (hB : Below W.heap.size W w') : Li W0 b g1 g2 g3 g4 g5 n w' := by
  have s := h.bel.size
  refine ⟨by obtain ⟨es, he⟩ := h.map; exact ⟨es, he.below hB⟩, h.w1.step (hB.block _ h.w1.lt), h.w2.step (hB.block _ h.w2.lt), h.w3.step (hB.block _ h.w3.lt), h.w4.step (hB.block _ h.w4.lt), h.w5.step (hB.block _ h.w5.lt), h.n1, h.n2, h.n3, h.n4, h.n5, h.bel.trans ⟨hB.os, hB.tape, hB.output, hB.size, fun k hk => hB.block k (by omega)⟩, h.bge⟩
theorem Li.alloc (h : Li W0 b g1 g2 g3 g4 g5 n W) (o : Obj) : Li W0 b g1 g2 g3 g4 g5 n (W.alloc o) := h.below (below_alloc (Below.refl _ _) o)
theorem Li.insert (h : Li W0 b g1 g2 g3 g4 g5 n W) {es : Array MapEntry} (he : Ents W b n es) {v : Value} (hv : Line W b v (nmT n) (wsT n) (fsT n)) (hb : But b W w') (hn : w'.heap[b]? = some (.map (es.push { key := .int .i64 ((n : Int) + 1), val := v, born := n }) (n + 1))) : Li W0 b g1 g2 g3 g4 g5 (n + 1) w' := by
  have hs := fun k (_ : k < W.heap.size) (hk : k ≠ b) => hb.block k hk
  refine ⟨⟨_, hn, by rw [Array.size_push, he.size], fun i e hi => ?_⟩, h.w1.step (hb.block _ h.n1), h.w2.step (hb.block _ h.n2), h.w3.step (hb.block _ h.n3), h.w4.step (hb.block _ h.n4), h.w5.step (hb.block _ h.n5), h.n1, h.n2, h.n3, h.n4, h.n5, h.bel.trans ⟨hb.os, hb.tape, hb.output, by have := hb.size; omega, fun k hk => hb.block k (by have := h.bge; omega)⟩, h.bge⟩
  rw [Array.getElem?_push] at hi
  split at hi
  · rename_i e'
    injection hi with hi
    subst hi
    rw [he.size] at e'
    subst e'
    exact ⟨rfl, hv.step hs⟩
  · exact ⟨(he.ent i e hi).1, (he.ent i e hi).2.step hs⟩
theorem run_insert {es : Array MapEntry} (he : Ents W b n es) (v : Value) : ∃ w', (Instr.mapUpdate 107 (.map (some b)) (.int .i64 ((n : Int) + 1)) v).run Tryz.prog W = .ok () w' ∧ But b W w' ∧ w'.heap[b]? = some (.map (es.push { key := .int .i64 ((n : Int) + 1), val := v, born := n }) (n + 1)) := by
  have hkeys : ∀ x ∈ es.toList, MapKept.IsKey (.int .i64) x.key := fun x hx => by
    obtain ⟨i, hi, rfl⟩ := List.getElem_of_mem hx
    rw [(he.ent i _ (by rw [Array.getElem?_eq_getElem (by simpa using hi)]; simp)).1]
    rfl
  have hf : Instr.findNow (.int .i64) (.int .i64 ((n : Int) + 1)) es.toList 0 = some none := by
    rcases MapKept.findNow_spec (d := .int .i64) (k := .int .i64 ((n : Int) + 1)) rfl es.toList 0 hkeys with h | ⟨j, e, _, hj, hk⟩
    · exact h.1
    · rw [Array.getElem?_toList] at hj
      have h1 := (he.ent j e hj).1
      have h2 : j < n := by have := (Array.getElem?_eq_some_iff.1 hj).1; rw [he.size] at this; exact this
      rw [h1] at hk
      injection hk with _ hk
      omega
  have hc : (Instr.checkKey false 10000 25 (.int .i64 ((n : Int) + 1))).run Tryz.prog W = .ok () W := MapKept.run_checkKey (k := .int .i64 ((n : Int) + 1)) Tryz.underlying25 rfl false 9999
  have hlt : b < W.heap.size := (Array.getElem?_eq_some_iff.1 he.here).1
  refine ⟨{ W with heap := W.heap.setIfInBounds b (.map (es.push { key := .int .i64 ((n : Int) + 1), val := v, born := n }) (n + 1)) }, ?_, ⟨rfl, rfl, rfl, by simp, fun k hk => by show (W.heap.setIfInBounds b _)[k]? = _; rw [Array.getElem?_setIfInBounds_ne (Ne.symm hk)]⟩, ?_⟩
  · simp [Instr.mapUpdate, run_underlying Tryz.underlying107, MapKept.run_getObj_map he.here, hc, MapKept.run_findKey Tryz.underlying25 hf, MapKept.run_setObj_map _ he.here, Result.andThen]
  · show (W.heap.setIfInBounds b _)[b]? = _
    rw [Array.getElem?_setIfInBounds_self_of_lt hlt]
theorem gate_ins {o : Oper} {a : Act} {K : Act → World → Prop} {Q : Exit → Act → World → Prop} {r : Result Next} {m : Operand} {t : TypeId} {k : Int} {x : Operand} (_ho : o.op = .insert t m (.const (.int .i64 k)) x) (h : Oper.upon Tryz.prog o a K Q r) : Oper.upon Tryz.prog o a K Q r := h
theorem upon_of_run {o : Oper} {a : Act} {K : Act → World → Prop} {Q : Exit → Act → World → Prop} {f : Unit → World → Result Next} {r : Result Unit} (hr : r = .ok () w') (h : Oper.upon Tryz.prog o a K Q ((Result.ok () w').andThen f)) : Oper.upon Tryz.prog o a K Q (r.andThen f) := by
  subst hr
  exact h
theorem upon_insert {o : Oper} {a : Act} {K : Act → World → Prop} {Q : Exit → Act → World → Prop} {f : Unit → World → Result Next} (n : Nat) (k : Int) (hk : k = (n : Int) + 1) (hL : Li W0 b g1 g2 g3 g4 g5 n W) (v : Value) (hv : Line W b v (nmT n) (wsT n) (fsT n))
    (h : ∀ w', Li W0 b g1 g2 g3 g4 g5 (n + 1) w' → Oper.upon Tryz.prog o a K Q ((Result.ok () w').andThen f)) : Oper.upon Tryz.prog o a K Q (((Instr.mapUpdate 107 (.map (some b)) (.int .i64 k) v).run Tryz.prog W).andThen f) := by
  have hx : ∃ w', (Instr.mapUpdate 107 (.map (some b)) (.int .i64 k) v).run Tryz.prog W = .ok () w' ∧ Li W0 b g1 g2 g3 g4 g5 (n + 1) w' := by
    obtain ⟨es, he⟩ := hL.map
    obtain ⟨w', hrun, hb, hn⟩ := run_insert he v
    subst hk
    exact ⟨w', hrun, hL.insert he hv hb hn⟩
  have hy := hx.choose_spec
  generalize hx.choose = w' at hy
  generalize (Instr.mapUpdate 107 (.map (some b)) (.int .i64 k) v).run Tryz.prog W = r at hy ⊢
  exact upon_of_run hy.1 (h _ hy.2)
end
theorem five (W : World) (c1 c2 c3 c4 c5 : Obj) : (((((W.alloc c1).alloc c2).alloc c3).alloc c4).alloc c5).heap[W.heap.size]? = some c1 ∧ (((((W.alloc c1).alloc c2).alloc c3).alloc c4).alloc c5).heap[W.heap.size + 1]? = some c2 ∧ (((((W.alloc c1).alloc c2).alloc c3).alloc c4).alloc c5).heap[W.heap.size + 1 + 1]? = some c3 ∧ (((((W.alloc c1).alloc c2).alloc c3).alloc c4).alloc c5).heap[W.heap.size + 1 + 1 + 1]? = some c4 ∧ (((((W.alloc c1).alloc c2).alloc c3).alloc c4).alloc c5).heap[W.heap.size + 1 + 1 + 1 + 1]? = some c5 := by
  have s1 : (W.alloc c1).heap.size = W.heap.size + 1 := World.size_alloc _ _
  have s2 : ((W.alloc c1).alloc c2).heap.size = W.heap.size + 1 + 1 := by rw [World.size_alloc, s1]
  have s3 : (((W.alloc c1).alloc c2).alloc c3).heap.size = W.heap.size + 1 + 1 + 1 := by rw [World.size_alloc, s2]
  have s4 : ((((W.alloc c1).alloc c2).alloc c3).alloc c4).heap.size = W.heap.size + 1 + 1 + 1 + 1 := by rw [World.size_alloc, s3]
  have n1 := heap_alloc_new W c1
  have n2 := heap_alloc_new (W.alloc c1) c2
  have n3 := heap_alloc_new ((W.alloc c1).alloc c2) c3
  have n4 := heap_alloc_new (((W.alloc c1).alloc c2).alloc c3) c4
  have n5 := heap_alloc_new ((((W.alloc c1).alloc c2).alloc c3).alloc c4) c5
  rw [s1] at n2
  rw [s2] at n3
  rw [s3] at n4
  rw [s4] at n5
  refine ⟨?_, ?_, ?_, ?_, n5⟩
  · rw [heap_alloc_old _ _ (by omega), heap_alloc_old _ _ (by omega), heap_alloc_old _ _ (by omega), heap_alloc_old _ _ (by omega), n1]
  · rw [heap_alloc_old _ _ (by omega), heap_alloc_old _ _ (by omega), heap_alloc_old _ _ (by omega), n2]
  · rw [heap_alloc_old _ _ (by omega), heap_alloc_old _ _ (by omega), n3]
  · rw [heap_alloc_old _ _ (by omega), n4]
set_option maxRecDepth 100000 in
set_option maxHeartbeats 4000000 in
theorem lines_calls (W : World) : Calls Tryz.prog 46 #[] W fun e w' => ∃ b es, e = .returned (.map (some b)) ∧ Ents w' b 28 es ∧ Below W.heap.size W w' := by
  go_enter Tryz.func46, Tryz.ntmps46
  go_wp2
  rw [run_makeMap]
  have F := five W (.cells #[.int .i64 3, .int .i64 2] 173) (.cells #[.int .i64 2, .int .i64 3] 173) (.cells #[.int .i64 2, .int .i64 2] 173) (.cells #[.int .i64 2, .int .i64 1] 173) (.cells #[.int .i64 1, .int .i64 2] 173)
  have hB5 : Below W.heap.size W (((((W.alloc (.cells #[.int .i64 3, .int .i64 2] 173)).alloc (.cells #[.int .i64 2, .int .i64 3] 173)).alloc (.cells #[.int .i64 2, .int .i64 2] 173)).alloc (.cells #[.int .i64 2, .int .i64 1] 173)).alloc (.cells #[.int .i64 1, .int .i64 2] 173)) := below_alloc (below_alloc (below_alloc (below_alloc (below_alloc (Below.refl _ _) _) _) _) _) _
  generalize (((((W.alloc (.cells #[.int .i64 3, .int .i64 2] 173)).alloc (.cells #[.int .i64 2, .int .i64 3] 173)).alloc (.cells #[.int .i64 2, .int .i64 2] 173)).alloc (.cells #[.int .i64 2, .int .i64 1] 173)).alloc (.cells #[.int .i64 1, .int .i64 2] 173)) = w0 at F hB5 ⊢
  obtain ⟨f1, f2, f3, f4, f5⟩ := F
  have hsz := hB5.size
  have hL0 : Li W w0.heap.size W.heap.size (W.heap.size + 1) (W.heap.size + 1 + 1) (W.heap.size + 1 + 1 + 1) (W.heap.size + 1 + 1 + 1 + 1) 0 (w0.alloc (.map #[] 0)) := by
    have l1 := (Array.getElem?_eq_some_iff.1 f1).1
    have l2 := (Array.getElem?_eq_some_iff.1 f2).1
    have l3 := (Array.getElem?_eq_some_iff.1 f3).1
    have l4 := (Array.getElem?_eq_some_iff.1 f4).1
    have l5 := (Array.getElem?_eq_some_iff.1 f5).1
    exact ⟨⟨#[], heap_alloc_new _ _, rfl, fun i e he => by simp at he⟩, (heap_alloc_old _ _ l1).trans f1, (heap_alloc_old _ _ l2).trans f2, (heap_alloc_old _ _ l3).trans f3, (heap_alloc_old _ _ l4).trans f4, (heap_alloc_old _ _ l5).trans f5, Nat.ne_of_lt l1, Nat.ne_of_lt l2, Nat.ne_of_lt l3, Nat.ne_of_lt l4, Nat.ne_of_lt l5, hB5.alloc hsz _, hsz⟩
  clear f1 f2 f3 f4 f5 hB5
  generalize hgb : w0.heap.size = b at hL0 ⊢
  generalize (w0.alloc (.map #[] 0)) = v0 at hL0 ⊢
  go_wp2_with (first | ((with_reducible refine gate_ins (k := 1) rfl ?_); refine upon_insert 0 1 rfl (hL0.alloc _) _ ⟨_, _, rfl, hL0.n1, Nat.ne_of_gt hL0.lt, (hL0.alloc _).w1, heap_alloc_new _ _⟩ ?_; intro v1 hL1; clear hL0) | ((with_reducible refine gate_ins (k := 2) rfl ?_); refine upon_insert 1 2 rfl (hL1.alloc _) _ ⟨_, _, rfl, hL1.n2, Nat.ne_of_gt hL1.lt, (hL1.alloc _).w2, heap_alloc_new _ _⟩ ?_; intro v2 hL2; clear hL1) | ((with_reducible refine gate_ins (k := 3) rfl ?_); refine upon_insert 2 3 rfl (hL2.alloc _) _ ⟨_, _, rfl, hL2.n1, Nat.ne_of_gt hL2.lt, (hL2.alloc _).w1, heap_alloc_new _ _⟩ ?_; intro v3 hL3; clear hL2) | ((with_reducible refine gate_ins (k := 4) rfl ?_); refine upon_insert 3 4 rfl (hL3.alloc _) _ ⟨_, _, rfl, hL3.n2, Nat.ne_of_gt hL3.lt, (hL3.alloc _).w2, heap_alloc_new _ _⟩ ?_; intro v4 hL4; clear hL3) | ((with_reducible refine gate_ins (k := 5) rfl ?_); refine upon_insert 4 5 rfl (hL4.alloc _) _ ⟨_, _, rfl, hL4.n2, Nat.ne_of_gt hL4.lt, (hL4.alloc _).w2, heap_alloc_new _ _⟩ ?_; intro v5 hL5; clear hL4) | ((with_reducible refine gate_ins (k := 6) rfl ?_); refine upon_insert 5 6 rfl ((hL5.alloc _).alloc _) _ ⟨_, _, rfl, Nat.ne_of_gt hL5.lt, Nat.ne_of_gt (Nat.lt_succ_of_lt hL5.lt), (heap_alloc_old _ _ (by rw [World.size_alloc]; exact Nat.lt_succ_self _)).trans (heap_alloc_new _ _), new2 _ _ _⟩ ?_; intro v6 hL6; clear hL5) | ((with_reducible refine gate_ins (k := 7) rfl ?_); refine upon_insert 6 7 rfl ((hL6.alloc _).alloc _) _ ⟨_, _, rfl, Nat.ne_of_gt hL6.lt, Nat.ne_of_gt (Nat.lt_succ_of_lt hL6.lt), (heap_alloc_old _ _ (by rw [World.size_alloc]; exact Nat.lt_succ_self _)).trans (heap_alloc_new _ _), new2 _ _ _⟩ ?_; intro v7 hL7; clear hL6) | ((with_reducible refine gate_ins (k := 8) rfl ?_); refine upon_insert 7 8 rfl (hL7.alloc _) _ ⟨_, _, rfl, hL7.n4, Nat.ne_of_gt hL7.lt, (hL7.alloc _).w4, heap_alloc_new _ _⟩ ?_; intro v8 hL8; clear hL7) | ((with_reducible refine gate_ins (k := 9) rfl ?_); refine upon_insert 8 9 rfl (hL8.alloc _) _ ⟨_, _, rfl, hL8.n3, Nat.ne_of_gt hL8.lt, (hL8.alloc _).w3, heap_alloc_new _ _⟩ ?_; intro v9 hL9; clear hL8) | ((with_reducible refine gate_ins (k := 10) rfl ?_); refine upon_insert 9 10 rfl (hL9.alloc _) _ ⟨_, _, rfl, hL9.n3, Nat.ne_of_gt hL9.lt, (hL9.alloc _).w3, heap_alloc_new _ _⟩ ?_; intro v10 hL10; clear hL9) | ((with_reducible refine gate_ins (k := 11) rfl ?_); refine upon_insert 10 11 rfl (hL10.alloc _) _ ⟨_, _, rfl, hL10.n3, Nat.ne_of_gt hL10.lt, (hL10.alloc _).w3, heap_alloc_new _ _⟩ ?_; intro v11 hL11; clear hL10) | ((with_reducible refine gate_ins (k := 12) rfl ?_); refine upon_insert 11 12 rfl (hL11.alloc _) _ ⟨_, _, rfl, hL11.n3, Nat.ne_of_gt hL11.lt, (hL11.alloc _).w3, heap_alloc_new _ _⟩ ?_; intro v12 hL12; clear hL11) | ((with_reducible refine gate_ins (k := 13) rfl ?_); refine upon_insert 12 13 rfl (hL12.alloc _) _ ⟨_, _, rfl, hL12.n4, Nat.ne_of_gt hL12.lt, (hL12.alloc _).w4, heap_alloc_new _ _⟩ ?_; intro v13 hL13; clear hL12) | ((with_reducible refine gate_ins (k := 14) rfl ?_); refine upon_insert 13 14 rfl (hL13.alloc _) _ ⟨_, _, rfl, hL13.n5, Nat.ne_of_gt hL13.lt, (hL13.alloc _).w5, heap_alloc_new _ _⟩ ?_; intro v14 hL14; clear hL13) | ((with_reducible refine gate_ins (k := 15) rfl ?_); refine upon_insert 14 15 rfl (hL14.alloc _) _ ⟨_, _, rfl, hL14.n3, Nat.ne_of_gt hL14.lt, (hL14.alloc _).w3, heap_alloc_new _ _⟩ ?_; intro v15 hL15; clear hL14) | ((with_reducible refine gate_ins (k := 16) rfl ?_); refine upon_insert 15 16 rfl (hL15.alloc _) _ ⟨_, _, rfl, hL15.n3, Nat.ne_of_gt hL15.lt, (hL15.alloc _).w3, heap_alloc_new _ _⟩ ?_; intro v16 hL16; clear hL15) | ((with_reducible refine gate_ins (k := 17) rfl ?_); refine upon_insert 16 17 rfl (hL16.alloc _) _ ⟨_, _, rfl, hL16.n3, Nat.ne_of_gt hL16.lt, (hL16.alloc _).w3, heap_alloc_new _ _⟩ ?_; intro v17 hL17; clear hL16) | ((with_reducible refine gate_ins (k := 18) rfl ?_); refine upon_insert 17 18 rfl (hL17.alloc _) _ ⟨_, _, rfl, hL17.n3, Nat.ne_of_gt hL17.lt, (hL17.alloc _).w3, heap_alloc_new _ _⟩ ?_; intro v18 hL18; clear hL17) | ((with_reducible refine gate_ins (k := 19) rfl ?_); refine upon_insert 18 19 rfl (hL18.alloc _) _ ⟨_, _, rfl, hL18.n3, Nat.ne_of_gt hL18.lt, (hL18.alloc _).w3, heap_alloc_new _ _⟩ ?_; intro v19 hL19; clear hL18) | ((with_reducible refine gate_ins (k := 20) rfl ?_); refine upon_insert 19 20 rfl (hL19.alloc _) _ ⟨_, _, rfl, hL19.n3, Nat.ne_of_gt hL19.lt, (hL19.alloc _).w3, heap_alloc_new _ _⟩ ?_; intro v20 hL20; clear hL19) | ((with_reducible refine gate_ins (k := 21) rfl ?_); refine upon_insert 20 21 rfl (hL20.alloc _) _ ⟨_, _, rfl, hL20.n3, Nat.ne_of_gt hL20.lt, (hL20.alloc _).w3, heap_alloc_new _ _⟩ ?_; intro v21 hL21; clear hL20) | ((with_reducible refine gate_ins (k := 22) rfl ?_); refine upon_insert 21 22 rfl (hL21.alloc _) _ ⟨_, _, rfl, hL21.n3, Nat.ne_of_gt hL21.lt, (hL21.alloc _).w3, heap_alloc_new _ _⟩ ?_; intro v22 hL22; clear hL21) | ((with_reducible refine gate_ins (k := 23) rfl ?_); refine upon_insert 22 23 rfl (hL22.alloc _) _ ⟨_, _, rfl, hL22.n3, Nat.ne_of_gt hL22.lt, (hL22.alloc _).w3, heap_alloc_new _ _⟩ ?_; intro v23 hL23; clear hL22) | ((with_reducible refine gate_ins (k := 24) rfl ?_); refine upon_insert 23 24 rfl ((hL23.alloc _).alloc _) _ ⟨_, _, rfl, Nat.ne_of_gt hL23.lt, Nat.ne_of_gt (Nat.lt_succ_of_lt hL23.lt), (heap_alloc_old _ _ (by rw [World.size_alloc]; exact Nat.lt_succ_self _)).trans (heap_alloc_new _ _), new2 _ _ _⟩ ?_; intro v24 hL24; clear hL23) | ((with_reducible refine gate_ins (k := 25) rfl ?_); refine upon_insert 24 25 rfl (hL24.alloc _) _ ⟨_, _, rfl, hL24.n4, Nat.ne_of_gt hL24.lt, (hL24.alloc _).w4, heap_alloc_new _ _⟩ ?_; intro v25 hL25; clear hL24) | ((with_reducible refine gate_ins (k := 26) rfl ?_); refine upon_insert 25 26 rfl (hL25.alloc _) _ ⟨_, _, rfl, hL25.n5, Nat.ne_of_gt hL25.lt, (hL25.alloc _).w5, heap_alloc_new _ _⟩ ?_; intro v26 hL26; clear hL25) | ((with_reducible refine gate_ins (k := 27) rfl ?_); refine upon_insert 26 27 rfl (hL26.alloc _) _ ⟨_, _, rfl, hL26.n4, Nat.ne_of_gt hL26.lt, (hL26.alloc _).w4, heap_alloc_new _ _⟩ ?_; intro v27 hL27; clear hL26) | ((with_reducible refine gate_ins (k := 28) rfl ?_); refine upon_insert 27 28 rfl (hL27.alloc _) _ ⟨_, _, rfl, hL27.n5, Nat.ne_of_gt hL27.lt, (hL27.alloc _).w5, heap_alloc_new _ _⟩ ?_; intro v28 hL28; clear hL27) | go_in)
  go_ret
  obtain ⟨es, he⟩ := hL28.map
  exact ⟨_, es, rfl, he, hL28.bel⟩
/-- The line's value that 'lines()[k]' is. -/
def nameOf (k : Int) : ByteArray := if 1 ≤ k ∧ k ≤ 28 then nmT (k - 1).toNat else ⟨#[]⟩
def waysOf (k : Int) : List (Int × Int) := if 1 ≤ k ∧ k ≤ 28 then wsT (k - 1).toNat else []
theorem not_in {W : World} {b : Nat} {es : Array MapEntry} (he : Ents W b 28 es) (k : Int) (h : ∀ x ∈ es.toList, x.key ≠ .int .i64 k) : ¬ (1 ≤ k ∧ k ≤ 28) := by
  intro hk
  have hlt : (k - 1).toNat < es.size := by rw [he.size]; omega
  have h1 := h es[(k - 1).toNat] (by simp)
  rw [(he.ent _ _ (Array.getElem?_eq_getElem hlt)).1] at h1
  apply h1
  congr 1
  omega
theorem field0 (W : World) (s : ByteArray) (A : Option Addr) (n c : Nat) (A2 : Option Addr) (n2 c2 : Nat) : (Instr.field 106 (.agg #[.string s, .slice A n c, .slice A2 n2 c2]) 0).run Tryz.prog W = .ok (.string s) W := by kernel_rfl
theorem field1 (W : World) (s : ByteArray) (A : Option Addr) (n c : Nat) (A2 : Option Addr) (n2 c2 : Nat) : (Instr.field 106 (.agg #[.string s, .slice A n c, .slice A2 n2 c2]) 1).run Tryz.prog W = .ok (.slice A n c) W := by kernel_rfl
theorem run_look {W : World} {b : Nat} {es : Array MapEntry} (he : Ents W b 28 es) (k : Int) : ∃ v, (Instr.lookup 107 (.map (some b)) (.int .i64 k) false).run Tryz.prog W = .ok v W ∧
    ∃ A n c A' n' c', v = .agg #[.string (nameOf k), .slice A n c, .slice A' n' c'] ∧ (waysOf k = [] ∧ n = 0 ∨ ∃ g, A = some ⟨g, 0, none⟩ ∧ n = (waysOf k).length ∧ Way W g (waysOf k)) := by
  have hkeys : ∀ x ∈ es.toList, MapKept.IsKey (.int .i64) x.key := fun x hx => by
    obtain ⟨i, hi, rfl⟩ := List.getElem_of_mem hx
    rw [(he.ent i _ (by rw [Array.getElem?_eq_getElem (by simpa using hi)]; simp)).1]
    rfl
  have hc : ∀ e, (Instr.checkKey e 10000 25 (.int .i64 k)).run Tryz.prog W = .ok () W := fun e => MapKept.run_checkKey (k := .int .i64 k) Tryz.underlying25 rfl e 9999
  have hz : (zeroValue 106).run Tryz.prog W = .ok (.agg #[.string ⟨#[]⟩, .slice none 0 0, .slice none 0 0]) W := by kernel_rfl
  rcases MapKept.findNow_spec (d := .int .i64) (k := .int .i64 k) rfl es.toList 0 hkeys with h | ⟨j, e, hf, hj, hk⟩
  · refine ⟨.agg #[.string ⟨#[]⟩, .slice none 0 0, .slice none 0 0], ?_, none, 0, 0, none, 0, 0, ?_, .inl ⟨?_, rfl⟩⟩
    · simp [Instr.lookup, run_underlying Tryz.underlying107, MapKept.run_getObj_map he.here, hc, MapKept.run_findKey Tryz.underlying25 h.1, Result.andThen, hz]
    · simp only [nameOf, if_neg (not_in he k h.2)]
    · simp only [waysOf, if_neg (not_in he k h.2)]
  · rw [Array.getElem?_toList] at hj
    obtain ⟨h1, g, gf, hv, hg, hgf, hw, hfl⟩ := he.ent j e hj
    have h2 : j < 28 := by have := (Array.getElem?_eq_some_iff.1 hj).1; rw [he.size] at this; exact this
    rw [h1] at hk
    injection hk with _ hk
    have hin : 1 ≤ k ∧ k ≤ 28 := by omega
    have hj' : (k - 1).toNat = j := by omega
    refine ⟨e.val, ?_, some ⟨g, 0, none⟩, (wsT j).length, (wsT j).length, some ⟨gf, 0, none⟩, (fsT j).length, (fsT j).length, ?_, .inr ⟨g, rfl, ?_, ?_⟩⟩
    · simp [Instr.lookup, run_underlying Tryz.underlying107, MapKept.run_getObj_map he.here, hc, MapKept.run_findKey Tryz.underlying25 hf, Result.andThen]
    · rw [hv, nameOf, if_pos hin, hj']
    · rw [waysOf, if_pos hin, hj']
    · rw [waysOf, if_pos hin, hj']
      exact hw
/-- 'lines()[k]' with its second answer, of a kind that there is. -/
theorem run_look_in {W : World} {b : Nat} {es : Array MapEntry} (he : Ents W b 28 es) (j : Nat) (hj28 : j < 28) : ∃ g gf, (Instr.lookup 107 (.map (some b)) (.int .i64 ((j : Int) + 1)) true).run Tryz.prog W = .ok (.tuple #[.agg #[.string (nmT j), .slice (some ⟨g, 0, none⟩) (wsT j).length (wsT j).length, .slice (some ⟨gf, 0, none⟩) (fsT j).length (fsT j).length], .bool true]) W ∧ Way W g (wsT j) ∧ Fld W gf (fsT j) := by
  have hkeys : ∀ x ∈ es.toList, MapKept.IsKey (.int .i64) x.key := fun x hx => by
    obtain ⟨i, hi, rfl⟩ := List.getElem_of_mem hx
    rw [(he.ent i _ (by rw [Array.getElem?_eq_getElem (by simpa using hi)]; simp)).1]
    rfl
  have hc : ∀ e, (Instr.checkKey e 10000 25 (.int .i64 ((j : Int) + 1))).run Tryz.prog W = .ok () W := fun e => MapKept.run_checkKey (k := .int .i64 ((j : Int) + 1)) Tryz.underlying25 rfl e 9999
  rcases MapKept.findNow_spec (d := .int .i64) (k := .int .i64 ((j : Int) + 1)) rfl es.toList 0 hkeys with h | ⟨i, e, hf, hi, hk⟩
  · exact absurd (show 1 ≤ (j : Int) + 1 ∧ (j : Int) + 1 ≤ 28 by omega) (not_in he ((j : Int) + 1) h.2)
  · rw [Array.getElem?_toList] at hi
    obtain ⟨h1, g, gf, hv, hg, hgf, hw, hfl⟩ := he.ent i e hi
    rw [h1] at hk
    injection hk with _ hk
    obtain rfl : i = j := by omega
    refine ⟨g, gf, ?_, hw, hfl⟩
    simp [Instr.lookup, run_underlying Tryz.underlying107, MapKept.run_getObj_map he.here, hc, MapKept.run_findKey Tryz.underlying25 hf, Result.andThen, hv]
/-- .. and of one that there is not. -/
theorem run_look_out {W : World} {b : Nat} {es : Array MapEntry} (he : Ents W b 28 es) (k : Int) (hk28 : ¬ (1 ≤ k ∧ k ≤ 28)) : (Instr.lookup 107 (.map (some b)) (.int .i64 k) true).run Tryz.prog W = .ok (.tuple #[.agg #[.string ⟨#[]⟩, .slice none 0 0, .slice none 0 0], .bool false]) W := by
  have hkeys : ∀ x ∈ es.toList, MapKept.IsKey (.int .i64) x.key := fun x hx => by
    obtain ⟨i, hi, rfl⟩ := List.getElem_of_mem hx
    rw [(he.ent i _ (by rw [Array.getElem?_eq_getElem (by simpa using hi)]; simp)).1]
    rfl
  have hc : ∀ e, (Instr.checkKey e 10000 25 (.int .i64 k)).run Tryz.prog W = .ok () W := fun e => MapKept.run_checkKey (k := .int .i64 k) Tryz.underlying25 rfl e 9999
  have hz : (zeroValue 106).run Tryz.prog W = .ok (.agg #[.string ⟨#[]⟩, .slice none 0 0, .slice none 0 0]) W := by kernel_rfl
  rcases MapKept.findNow_spec (d := .int .i64) (k := .int .i64 k) rfl es.toList 0 hkeys with h | ⟨i, e, hf, hi, hk⟩
  · simp [Instr.lookup, run_underlying Tryz.underlying107, MapKept.run_getObj_map he.here, hc, MapKept.run_findKey Tryz.underlying25 h.1, Result.andThen, hz]
  · rw [Array.getElem?_toList] at hi
    have h2 : i < 28 := by have := (Array.getElem?_eq_some_iff.1 hi).1; rw [he.size] at this; exact this
    rw [(he.ent i e hi).1] at hk
    have hk := (Value.int.inj hk).2
    exact absurd (show 1 ≤ k ∧ k ≤ 28 by clear hz hc hf hkeys; omega) hk28
set_option maxRecDepth 100000 in
theorem name_calls (k : Int) (W : World) : Calls Tryz.prog 15 #[.int .i64 k] W fun e w' => e = .returned (.string (nameOf k)) ∧ Below W.heap.size W w' := by
  have hf0 := field0
  go_enter Tryz.func15, Tryz.ntmps15
  go_wp2_with (first | (go_at_call 46; refine (lines_calls _).mono ?_; rintro e w1 ⟨b, es, rfl, hE, hB⟩; obtain ⟨v, hrun, A, n, c, A2, n2, c2, rfl, hv⟩ := run_look hE k) | go_in)
  go_ret
  exact ⟨rfl, hB⟩

end Go.Proofs.YtepkaaplhcbkbaaGreat.G
