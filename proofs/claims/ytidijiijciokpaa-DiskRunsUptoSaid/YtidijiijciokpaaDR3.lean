import Derived.Test.YtidijiijciokpaaDR1
import Derived.Maps.OwnOps
import Derived.WideMake
import Derived.Laws.IdiomRangeMap
import Derived.Maps.AppendAt
import Derived.Deep.RegionLaw
import Derived.ArgAppend
import Derived.Maps.RangeRun
import Derived.Deep.Upon
import Derived.Deep.QuietTactic
import Derived.BigQuiet
import Derived.Deep.RegionHeld3
import Derived.Deep.DeepCutAuto
import Derived.Deep.CutBlock
import Derived.Laws.EntriesVeiled
import Derived.StillTailTactics
import Derived.Laws.Tables
import Derived.Laws.CopyOwn
import Derived.IntWalk
import Derived.Test.YtidijiijciokpaaBlocks
import Derived.Laws.CopyOwn
import Derived.Laws.Tables
import Derived.Outline
namespace Go.Proofs.Ytidijiijciokpaa.G
open Go.RowKit Go.Proofs.YtidijiijciokpaaW.PrintWords Go.Proofs.YtidijiijciokpaaW.PrintLast Go.Proofs.YtidijiijciokpaaW.PrintMore
set_option linter.unusedVariables false
set_option linter.unusedSimpArgs false
namespace Gd
open Go.Proofs.Ytidijiijciokpaa.Blocks Frm Go.Proofs.Ytidijiijciokpaa.U
set_option maxRecDepth 100000
/-! The document's disk: walks of its methods. -/
theorem info_rd : (Try.prog.info? 61).map (·.size) = some 6 := by kernel_rfl
def zRd : Array Value := #[.int .i64 0, .slice none 0 0, .slice none 0 0, .int .i64 0, .int .i64 0, .bool false]
section
variable {W : World} (rm ac fl : Int) (A1 A2 : Option Addr) (n1 c1 n2 c2 : Nat) (off : Bool)
/-- Behind the boxes of a method of the document's disk: its own, and its answer's. -/
structure Bx (W w : World) (b r : Nat) (cs rs : Array Value) : Prop where
  p : w.heap[b]? = some (.cells cs 61 (0, 0))
  q : w.heap[r]? = some (.cells rs 61 (0, 0))
  ge : W.heap.size ≤ b ∧ W.heap.size ≤ r
  ne : b ≠ r
  bel : Below W.heap.size W w
theorem Bx.two (W : World) (cs rs : Array Value) : Bx W ((W.alloc (.cells cs 61)).alloc (.cells rs 61)) W.heap.size (W.heap.size + 1) cs rs := by
  have h1 : (W.alloc (.cells cs 61)).heap.size = W.heap.size + 1 := World.size_alloc _ _
  refine ⟨blk_alloc (blk_new W _) _, ?_, ⟨Nat.le_refl _, Nat.le_succ _⟩, by omega, below_alloc (below_alloc (Below.refl _ _) _) _⟩
  have := blk_new (W.alloc (.cells cs 61)) (.cells rs 61)
  rwa [h1] at this
theorem Bx.below {W w w' : World} {b r : Nat} {cs rs : Array Value} (h : Bx W w b r cs rs) (hb : Below w.heap.size w w') : Bx W w' b r cs rs :=
  ⟨blk_below h.p hb, blk_below h.q hb, h.ge, h.ne, h.bel.trans (below_w hb h.bel.size)⟩
theorem Bx.setB {W w : World} {b r : Nat} {cs rs : Array Value} (h : Bx W w b r cs rs) (i : Nat) (v : Value) {cs' : Array Value} (e : cs.setIfInBounds i v = cs') : Bx W (w.setCell ⟨b, i, none⟩ v) b r cs' rs :=
  ⟨blk_put h.p i v e, blk_far h.q (fun e => h.ne e.symm) _, h.ge, h.ne, h.bel.setCell h.ge.1 _⟩
theorem Bx.store {W w : World} {b r : Nat} {cs rs : Array Value} (h : Bx W w b r cs rs) (cs' : Array Value) : Bx W (w.setRow r cs') b r cs cs' :=
  ⟨(setRow_other w r b cs' h.ne).trans h.p, setRow_heap w r rs cs' _ (0, 0) h.q, h.ge, h.ne, below_setRow h.bel h.ge.2 _⟩
theorem Bx.cells {W w : World} {b r : Nat} {rs : Array Value} {x0 x1 x2 x3 x4 x5 : Value} (h : Bx W w b r #[x0, x1, x2, x3, x4, x5] rs) : (w.cell? ⟨b, 0, none⟩ = some x0 ∧ w.cell? ⟨b, 1, none⟩ = some x1 ∧ w.cell? ⟨b, 2, none⟩ = some x2 ∧ w.cell? ⟨b, 3, none⟩ = some x3 ∧ w.cell? ⟨b, 4, none⟩ = some x4 ∧ w.cell? ⟨b, 5, none⟩ = some x5) ∧ ∀ i, w.frozen? ⟨b, i, none⟩ = false :=
  ⟨⟨blk_cell h.p 0, blk_cell h.p 1, blk_cell h.p 2, blk_cell h.p 3, blk_cell h.p 4, blk_cell h.p 5⟩, fun i => blk_frozen h.p i⟩
theorem Bx.ret {W w : World} {b r : Nat} {cs rs : Array Value} (h : Bx W w b r cs rs) {fn : Func} {p : Tmp} (hf : fn.results = #[.cell p 61]) (tmps : Array Value) (hp : tmps.getD p undef = .pointer (some ⟨r, 0, none⟩)) (hs : rs.size = 6) : (results fn tmps).run Try.prog w = .ok (.agg rs) w :=
  results_cell1 (P := Try.prog) hf _ _ r 61 rs (0, 0) _ hp h.q Try.underlying61 rfl (by rw [info_rd, hs])
theorem rstart_calls : Calls Try.prog 70 #[.agg #[.int .i64 rm, .slice A1 n1 c1, .slice A2 n2 c2, .int .i64 ac, .int .i64 fl, .bool off]] W fun e w => e = .returned (.agg #[.int .i64 rm, .slice A1 n1 c1, .slice A2 n2 c2, .int .i64 ac, .int .i64 fl, .bool false]) ∧ Below W.heap.size W w := by
  have HX := Aside0.mk (Bx.two W #[.int .i64 rm, .slice A1 n1 c1, .slice A2 n2 c2, .int .i64 ac, .int .i64 fl, .bool off] zRd)
  go_enter Try.func70, Try.ntmps70
  go_upto_region 1 with fail
  unfold zRd at HX
  have hsz : (W.alloc (.cells #[.int .i64 rm, .slice A1 n1 c1, .slice A2 n2 c2, .int .i64 ac, .int .i64 fl, .bool off] 61)).heap.size = W.heap.size + 1 := World.size_alloc _ _
  generalize (W.alloc (.cells #[.int .i64 rm, .slice A1 n1 c1, .slice A2 n2 c2, .int .i64 ac, .int .i64 fl, .bool off] 61)).alloc _ = w1 at HX ⊢
  clear hsz
  obtain ⟨⟨c0, c1', c2', c3, c4, c5⟩, hf⟩ := HX.out.cells
  have f5 := hf 5
  go_upto_region 2 with fail
  have HX2 := Aside0.mk (HX.out.setB 5 (.bool false) rfl)
  clear c0 c1' c2' c3 c4 c5 hf f5 HX
  generalize w1.setCell _ _ = w2 at HX2 ⊢
  obtain ⟨⟨c0, c1', c2', c3, c4, c5⟩, hf⟩ := HX2.out.cells
  clear hf
  go_wp2_with (first
    | ((with_reducible refine wpList_store_row rfl 61 (.tmp 2) (.tmp 4) rfl (W.heap.size + 1) #[.int .i64 rm, .slice A1 n1 c1, .slice A2 n2 c2, .int .i64 ac, .int .i64 fl, .bool false] ?d1 ?d2 61 #[.int .i64 0, .slice none 0 0, .slice none 0 0, .int .i64 0, .int .i64 0, .bool false] ?c1 ?c2 ?c3 ?c4 ?_); (case d1 => rfl); (case d2 => rfl); (case c1 => exact HX2.out.q); (case c2 => exact info_rd); (case c3 => rfl); (case c4 => kernel_rfl))
    | fail)
  refine bodyPost_ret ((HX2.out.store _).ret rfl _ rfl rfl) rfl ?_
  exact ⟨rfl, (HX2.out.store _).bel⟩
end
end Gd

namespace Gd
open Go.Proofs.Ytidijiijciokpaa.Blocks Frm Go.Proofs.Ytidijiijciokpaa.U
set_option maxRecDepth 100000
section
variable {W : World} {rm ac fl : Int} {l : List S118} {s : List Sp} {A1 A2 : Option Addr} {c1 c2 : Nat} {off : Bool}
/-- The rows of the document's disk. -/
structure DV (W : World) (P : Nat → Prop) (r : Rd) (A1 : Option Addr) (c1 : Nat) (A2 : Option Addr) (c2 : Nat) : Prop where
  f : Kd.V k118 118 W 0 P (.slice A1 r.l.length c1) r.l
  s : Kd.V k145 145 W 0 P (.slice A2 r.s.length c2) r.s
def Rd.val (r : Rd) (A1 : Option Addr) (c1 : Nat) (A2 : Option Addr) (c2 : Nat) : Value := .agg #[.int .i64 r.room, .slice A1 r.l.length c1, .slice A2 r.s.length c2, .int .i64 r.acts, .int .i64 r.fails, .bool r.off]
theorem DV.below {P : Nat → Prop} {r : Rd} {w : World} (h : DV W P r A1 c1 A2 c2) (hb : Below W.heap.size W w) : DV w P r A1 c1 A2 c2 := ⟨Kd.V_below h.f hb, Kd.V_below h.s hb⟩
theorem DV.mono {P Q : Nat → Prop} {r : Rd} (h : DV W P r A1 c1 A2 c2) (hq : ∀ j, P j → Q j) : DV W Q r A1 c1 A2 c2 := ⟨Kd.V_mono h.f hq, Kd.V_mono h.s hq⟩
theorem DV.step {P : Nat → Prop} {r : Rd} {w : World} (h : DV W P r A1 c1 A2 c2) (hm : ∀ k, P k → k < W.heap.size → w.heap[k]? = W.heap[k]?) : DV w P r A1 c1 A2 c2 := ⟨Kd.V_step h.f hm, Kd.V_step h.s hm⟩
/-- What a method hands back. -/
def RPost (W : World) (P : Nat → Prop) (r : Rd) (v : Value) (w : World) : Prop := ∃ A1 c1 A2 c2, v = r.val A1 c1 A2 c2 ∧ DV w (fun j => P j ∨ W.heap.size ≤ j) r A1 c1 A2 c2 ∧ Below W.heap.size W w
theorem rfail_off (n : Int)  : Calls Try.prog 68 #[.agg #[.int .i64 rm, .slice A1 l.length c1, .slice A2 s.length c2, .int .i64 ac, .int .i64 fl, .bool true], .int .i64 n] W fun e w => e = .returned (.agg #[.int .i64 rm, .slice A1 l.length c1, .slice A2 s.length c2, .int .i64 ac, .int .i64 fl, .bool true]) ∧ Below W.heap.size W w := by
  have HX := Aside0.mk (Bx.two W #[.int .i64 rm, .slice A1 l.length c1, .slice A2 s.length c2, .int .i64 ac, .int .i64 fl, .bool true] zRd)
  go_enter Try.func68, Try.ntmps68
  go_upto_region 1 with fail
  unfold zRd at HX
  generalize (W.alloc (.cells #[.int .i64 rm, .slice A1 l.length c1, .slice A2 s.length c2, .int .i64 ac, .int .i64 fl, .bool true] 61)).alloc _ = w1 at HX ⊢
  obtain ⟨⟨c0, c1', c2', c3, c4, c5⟩, hf⟩ := HX.out.cells
  clear hf
  go_wp2_with (first
    | ((with_reducible refine wpList_store_row rfl 61 (.tmp 4) (.tmp 7) rfl (W.heap.size + 1) #[.int .i64 rm, .slice A1 l.length c1, .slice A2 s.length c2, .int .i64 ac, .int .i64 fl, .bool true] ?d1 ?d2 61 #[.int .i64 0, .slice none 0 0, .slice none 0 0, .int .i64 0, .int .i64 0, .bool false] ?c1 ?c2 ?c3 ?c4 ?_); (case d1 => rfl); (case d2 => rfl); (case c1 => exact HX.out.q); (case c2 => exact info_rd); (case c3 => rfl); (case c4 => kernel_rfl))
    | fail)
  refine bodyPost_ret ((HX.out.store _).ret rfl _ rfl rfl) rfl ?_
  exact ⟨rfl, (HX.out.store _).bel⟩
theorem rfail_neg (n : Int) (hn : n < 0) : Calls Try.prog 68 #[.agg #[.int .i64 rm, .slice A1 l.length c1, .slice A2 s.length c2, .int .i64 ac, .int .i64 fl, .bool false], .int .i64 n] W fun e w => e = .returned (.agg #[.int .i64 rm, .slice A1 l.length c1, .slice A2 s.length c2, .int .i64 ac, .int .i64 0, .bool false]) ∧ Below W.heap.size W w := by
  have ht : decide (n < 0) = true := decide_eq_true hn
  clear hn
  have HX := Aside0.mk (Bx.two W #[.int .i64 rm, .slice A1 l.length c1, .slice A2 s.length c2, .int .i64 ac, .int .i64 fl, .bool false] zRd)
  go_enter Try.func68, Try.ntmps68
  go_upto_region 1 with fail
  unfold zRd at HX
  generalize (W.alloc (.cells #[.int .i64 rm, .slice A1 l.length c1, .slice A2 s.length c2, .int .i64 ac, .int .i64 fl, .bool false] 61)).alloc _ = w1 at HX ⊢
  obtain ⟨⟨c0, c1', c2', c3, c4, c5⟩, hf⟩ := HX.out.cells
  have f4 := hf 4
  clear hf
  go_upto_region 4 with fail
  have HX2 := Aside0.mk (HX.out.setB 4 (.int .i64 n) rfl)
  clear c0 c1' c2' c3 c4 c5 f4 HX
  generalize w1.setCell _ _ = w2 at HX2 ⊢
  obtain ⟨⟨c0, c1', c2', c3, c4, c5⟩, hf⟩ := HX2.out.cells
  have f4 := hf 4
  clear hf
  go_upto_region 6 with fail
  have HX3 := Aside0.mk (HX2.out.setB 4 (.int .i64 0) rfl)
  clear c0 c1' c2' c3 c4 c5 f4 HX2
  generalize w2.setCell _ _ = w3 at HX3 ⊢
  obtain ⟨⟨c0, c1', c2', c3, c4, c5⟩, hf⟩ := HX3.out.cells
  clear hf
  go_wp2_with (first
    | ((with_reducible refine wpList_store_row rfl 61 (.tmp 4) (.tmp 13) rfl (W.heap.size + 1) #[.int .i64 rm, .slice A1 l.length c1, .slice A2 s.length c2, .int .i64 ac, .int .i64 0, .bool false] ?d1 ?d2 61 #[.int .i64 0, .slice none 0 0, .slice none 0 0, .int .i64 0, .int .i64 0, .bool false] ?c1 ?c2 ?c3 ?c4 ?_); (case d1 => rfl); (case d2 => rfl); (case c1 => exact HX3.out.q); (case c2 => exact info_rd); (case c3 => rfl); (case c4 => kernel_rfl))
    | fail)
  refine bodyPost_ret ((HX3.out.store _).ret rfl _ rfl rfl) rfl ?_
  exact ⟨rfl, (HX3.out.store _).bel⟩
theorem rfail_pos (n : Int) (hn : ¬ n < 0) : Calls Try.prog 68 #[.agg #[.int .i64 rm, .slice A1 l.length c1, .slice A2 s.length c2, .int .i64 ac, .int .i64 fl, .bool false], .int .i64 n] W fun e w => e = .returned (.agg #[.int .i64 rm, .slice A1 l.length c1, .slice A2 s.length c2, .int .i64 ac, .int .i64 n, .bool false]) ∧ Below W.heap.size W w := by
  have ht : decide (n < 0) = false := decide_eq_false hn
  clear hn
  have HX := Aside0.mk (Bx.two W #[.int .i64 rm, .slice A1 l.length c1, .slice A2 s.length c2, .int .i64 ac, .int .i64 fl, .bool false] zRd)
  go_enter Try.func68, Try.ntmps68
  go_upto_region 1 with fail
  unfold zRd at HX
  generalize (W.alloc (.cells #[.int .i64 rm, .slice A1 l.length c1, .slice A2 s.length c2, .int .i64 ac, .int .i64 fl, .bool false] 61)).alloc _ = w1 at HX ⊢
  obtain ⟨⟨c0, c1', c2', c3, c4, c5⟩, hf⟩ := HX.out.cells
  have f4 := hf 4
  clear hf
  go_upto_region 4 with fail
  have HX2 := Aside0.mk (HX.out.setB 4 (.int .i64 n) rfl)
  clear c0 c1' c2' c3 c4 c5 f4 HX
  generalize w1.setCell _ _ = w2 at HX2 ⊢
  obtain ⟨⟨c0, c1', c2', c3, c4, c5⟩, hf⟩ := HX2.out.cells
  clear hf
  go_wp2_with (first
    | ((with_reducible refine wpList_store_row rfl 61 (.tmp 4) (.tmp 13) rfl (W.heap.size + 1) #[.int .i64 rm, .slice A1 l.length c1, .slice A2 s.length c2, .int .i64 ac, .int .i64 n, .bool false] ?d1 ?d2 61 #[.int .i64 0, .slice none 0 0, .slice none 0 0, .int .i64 0, .int .i64 0, .bool false] ?c1 ?c2 ?c3 ?c4 ?_); (case d1 => rfl); (case d2 => rfl); (case c1 => exact HX2.out.q); (case c2 => exact info_rd); (case c3 => rfl); (case c4 => kernel_rfl))
    | fail)
  refine bodyPost_ret ((HX2.out.store _).ret rfl _ rfl rfl) rfl ?_
  exact ⟨rfl, (HX2.out.store _).bel⟩
theorem rfail_calls {d : Ab} {P : Nat → Prop} (hV : DV W P d.doc A1 c1 A2 c2) (n : Int) : Calls Try.prog 68 #[d.doc.val A1 c1 A2 c2, .int .i64 n] W fun e w => ∃ v, e = .returned v ∧ RPost W P (d.fail n).doc v w := by
  by_cases hd : d.down = true
  · have e1 : d.fail n = d := by simp [Ab.fail, hd]
    rw [e1]
    have h := rfail_off (W := W) (rm := d.doc.room) (ac := d.doc.acts) (fl := d.doc.fails) (l := d.doc.l) (s := d.doc.s) (A1 := A1) (A2 := A2) (c1 := c1) (c2 := c2) n
    have e2 : d.doc.val A1 c1 A2 c2 = .agg #[.int .i64 d.doc.room, .slice A1 d.doc.l.length c1, .slice A2 d.doc.s.length c2, .int .i64 d.doc.acts, .int .i64 d.doc.fails, .bool true] := by
      unfold Rd.val
      rw [show d.doc.off = true from hd]
    rw [e2]
    exact h.mono fun e w ⟨q1, q2⟩ => ⟨_, q1, A1, c1, A2, c2, e2.symm, (hV.below q2).mono fun j hj => .inl hj, q2⟩
  · have hd : d.down = false := by simpa using hd
    have e2 : d.doc.val A1 c1 A2 c2 = .agg #[.int .i64 d.doc.room, .slice A1 d.doc.l.length c1, .slice A2 d.doc.s.length c2, .int .i64 d.doc.acts, .int .i64 d.doc.fails, .bool false] := by
      unfold Rd.val
      rw [show d.doc.off = false from hd]
    have e3 : ∀ m : Int, ({ d with fails := m } : Ab).doc.val A1 c1 A2 c2 = .agg #[.int .i64 d.doc.room, .slice A1 d.doc.l.length c1, .slice A2 d.doc.s.length c2, .int .i64 d.doc.acts, .int .i64 m, .bool false] := fun m => by
      unfold Rd.val
      rw [show ({ d with fails := m } : Ab).doc.off = false from hd]
      rfl
    rw [e2]
    by_cases hn : n < 0
    · have e1 : d.fail n = { d with fails := 0 } := by simp [Ab.fail, hd, hn]
      rw [e1]
      exact (rfail_neg n hn).mono fun e w ⟨q1, q2⟩ => ⟨_, q1, A1, c1, A2, c2, (e3 0).symm, (show DV w P ({ d with fails := 0 } : Ab).doc A1 c1 A2 c2 from ⟨(hV.below q2).f, (hV.below q2).s⟩).mono fun j hj => .inl hj, q2⟩
    · have e1 : d.fail n = { d with fails := n } := by simp [Ab.fail, hd, hn]
      rw [e1]
      exact (rfail_pos n hn).mono fun e w ⟨q1, q2⟩ => ⟨_, q1, A1, c1, A2, c2, (e3 n).symm, (show DV w P ({ d with fails := n } : Ab).doc A1 c1 A2 c2 from ⟨(hV.below q2).f, (hV.below q2).s⟩).mono fun j hj => .inl hj, q2⟩
theorem rstart_doc {d : Ab} {P : Nat → Prop} (hV : DV W P d.doc A1 c1 A2 c2) : Calls Try.prog 70 #[d.doc.val A1 c1 A2 c2] W fun e w => ∃ v, e = .returned v ∧ RPost W P d.start.doc v w :=
  (rstart_calls d.doc.room d.doc.acts d.doc.fails A1 A2 d.doc.l.length c1 d.doc.s.length c2 d.doc.off).mono fun e w ⟨q1, q2⟩ => ⟨_, q1, A1, c1, A2, c2, rfl, (show DV w P d.start.doc A1 c1 A2 c2 from ⟨(hV.below q2).f, (hV.below q2).s⟩).mono fun j hj => .inl hj, q2⟩
theorem rcrash_off (n : Int) : Calls Try.prog 69 #[.agg #[.int .i64 rm, .slice A1 l.length c1, .slice A2 s.length c2, .int .i64 ac, .int .i64 fl, .bool true], .int .i64 n] W fun e w => e = .returned (.agg #[.int .i64 rm, .slice A1 l.length c1, .slice A2 s.length c2, .int .i64 ac, .int .i64 fl, .bool true]) ∧ Below W.heap.size W w := by
  have HX := Aside0.mk (Bx.two W #[.int .i64 rm, .slice A1 l.length c1, .slice A2 s.length c2, .int .i64 ac, .int .i64 fl, .bool true] zRd)
  go_enter Try.func69, Try.ntmps69
  go_upto_region 1 with fail
  unfold zRd at HX
  generalize (W.alloc (.cells #[.int .i64 rm, .slice A1 l.length c1, .slice A2 s.length c2, .int .i64 ac, .int .i64 fl, .bool true] 61)).alloc _ = w1 at HX ⊢
  obtain ⟨⟨c0, c1', c2', c3, c4, c5⟩, hf⟩ := HX.out.cells
  clear hf
  go_wp2_with (first
    | ((with_reducible refine wpList_store_row rfl 61 (.tmp 4) (.tmp 7) rfl (W.heap.size + 1) #[.int .i64 rm, .slice A1 l.length c1, .slice A2 s.length c2, .int .i64 ac, .int .i64 fl, .bool true] ?d1 ?d2 61 #[.int .i64 0, .slice none 0 0, .slice none 0 0, .int .i64 0, .int .i64 0, .bool false] ?c1 ?c2 ?c3 ?c4 ?_); (case d1 => rfl); (case d2 => rfl); (case c1 => exact HX.out.q); (case c2 => exact info_rd); (case c3 => rfl); (case c4 => kernel_rfl))
    | fail)
  refine bodyPost_ret ((HX.out.store _).ret rfl _ rfl rfl) rfl ?_
  exact ⟨rfl, (HX.out.store _).bel⟩
set_option maxHeartbeats 1000000 in
theorem rcrash_on {P : Nat → Prop} (k : Nat) (n : Int) (x : List S118) (hL : hawserref12_Disk_Left.f k rm l s ac fl false n = some x) (hV : Kd.V k118 118 W 0 P (.slice A1 l.length c1) l) (hS : Kd.V k145 145 W 0 P (.slice A2 s.length c2) s) : Calls Try.prog 69 #[.agg #[.int .i64 rm, .slice A1 l.length c1, .slice A2 s.length c2, .int .i64 ac, .int .i64 fl, .bool false], .int .i64 n] W fun e w => ∃ Ax cx, e = .returned (.agg #[.int .i64 rm, .slice Ax x.length cx, .slice none 0 0, .int .i64 ac, .int .i64 0, .bool true]) ∧ Kd.V k118 118 w 0 (fun j => P j ∨ W.heap.size ≤ j) (.slice Ax x.length cx) x ∧ Below W.heap.size W w := by
  have HX := Aside0.mk (Bx.two W #[.int .i64 rm, .slice A1 l.length c1, .slice A2 s.length c2, .int .i64 ac, .int .i64 fl, .bool false] zRd)
  have HL := Aside0.mk hL
  have HV := Aside0.mk (fun w (h : Below W.heap.size W w) => And.intro (Kd.V_below (Kd.V_bound hV) h) (Kd.V_reads' (Kd.V_below hS h)))
  clear hL hV hS
  go_enter Try.func69, Try.ntmps69
  go_upto_region 1 with fail
  unfold zRd at HX
  generalize (W.alloc (.cells #[.int .i64 rm, .slice A1 l.length c1, .slice A2 s.length c2, .int .i64 ac, .int .i64 fl, .bool false] 61)).alloc _ = w1 at HX ⊢
  obtain ⟨⟨c0, c1', c2', c3, c4, c5⟩, hf⟩ := HX.out.cells
  clear hf
  have HQ := Aside0.mk (show ∀ j, ((P j ∧ j < W.heap.size) ∨ w1.heap.size ≤ j) → (j ≠ W.heap.size ∧ j ≠ W.heap.size + 1) from fun j hj => by
    have q1 := blk_lt HX.out.p
    have q2 := blk_lt HX.out.q
    omega)
  go_upto_region 4 with (first
    | (go_at_call 72; refine Calls.mono (hawserref12_Disk_Left.calls k rm (fun j => P j ∧ j < W.heap.size) A1 c1 l A2 c2 s ac fl false n x w1 (HV.out _ HX.out.bel).1 (HV.out _ HX.out.bel).2.2.2 (HV.out _ HX.out.bel).2.2.1 HL.out) ?_; rintro e w2 ⟨v, rfl, h1, h2⟩; obtain ⟨Ax, cx, ev⟩ := Kd.V_slice h1; subst ev; (have HX2 := Aside0.mk (HX.out.below h2)); (have HR := Aside0.mk (show Kd.V k118 118 w2 0 (fun j => (P j ∧ j < W.heap.size) ∨ w1.heap.size ≤ j) (.slice Ax x.length cx) x from h1)); clear h1 h2 c0 c1' c2' c3 c4 c5; (have c1' : w2.cell? ⟨W.heap.size, 1, none⟩ = some (.slice A1 l.length c1) := HX2.out.cells.1.2.1); (have f1 : w2.frozen? ⟨W.heap.size, 1, none⟩ = false := HX2.out.cells.2 1))
    | fail)
  have HX2' := Aside0.mk (HX2.out.setB 1 (.slice Ax x.length cx) rfl)
  have HR' := Aside0.mk (Kd.V_far (p := ⟨W.heap.size, 1, none⟩) HR.out (fun j hj => (HQ.out j hj).1) (.slice Ax x.length cx))
  clear HR
  clear c1' f1
  have HX3 := HX2'
  have HR3 := HR'
  clear HX2' HR'
  generalize w2.setCell _ _ = w3 at HX3 HR3 ⊢
  obtain ⟨⟨c0, c1', c2', c3, c4, c5⟩, hf⟩ := HX3.out.cells
  have f2 := hf 2
  clear hf
  go_upto_region 5 with fail
  have HX3' := Aside0.mk (HX3.out.setB 2 (.slice none 0 0) rfl)
  have HR3' := Aside0.mk (Kd.V_far (p := ⟨W.heap.size, 2, none⟩) HR3.out (fun j hj => (HQ.out j hj).1) (.slice none 0 0))
  clear HX3 HR3
  clear c0 c1' c2' c3 c4 c5 f2
  have HX4 := HX3'
  have HR4 := HR3'
  clear HX3' HR3'
  generalize w3.setCell _ _ = w4 at HX4 HR4 ⊢
  obtain ⟨⟨c0, c1', c2', c3, c4, c5⟩, hf⟩ := HX4.out.cells
  have f4 := hf 4
  clear hf
  go_upto_region 6 with fail
  have HX4' := Aside0.mk (HX4.out.setB 4 (.int .i64 0) rfl)
  have HR4' := Aside0.mk (Kd.V_far (p := ⟨W.heap.size, 4, none⟩) HR4.out (fun j hj => (HQ.out j hj).1) (.int .i64 0))
  clear HX4 HR4
  clear c0 c1' c2' c3 c4 c5 f4
  have HX5 := HX4'
  have HR5 := HR4'
  clear HX4' HR4'
  generalize w4.setCell _ _ = w5 at HX5 HR5 ⊢
  obtain ⟨⟨c0, c1', c2', c3, c4, c5⟩, hf⟩ := HX5.out.cells
  have f5 := hf 5
  clear hf
  go_upto_region 7 with fail
  have HX5' := Aside0.mk (HX5.out.setB 5 (.bool true) rfl)
  have HR5' := Aside0.mk (Kd.V_far (p := ⟨W.heap.size, 5, none⟩) HR5.out (fun j hj => (HQ.out j hj).1) (.bool true))
  clear HX5 HR5
  clear c0 c1' c2' c3 c4 c5 f5
  have HX6 := HX5'
  have HR6 := HR5'
  clear HX5' HR5'
  generalize w5.setCell _ _ = w6 at HX6 HR6 ⊢
  obtain ⟨⟨c0, c1', c2', c3, c4, c5⟩, hf⟩ := HX6.out.cells
  clear hf
  go_wp2_with (first
    | ((with_reducible refine wpList_store_row rfl 61 (.tmp 4) (.tmp 15) rfl (W.heap.size + 1) #[.int .i64 rm, .slice Ax x.length cx, .slice none 0 0, .int .i64 ac, .int .i64 0, .bool true] ?d1 ?d2 61 #[.int .i64 0, .slice none 0 0, .slice none 0 0, .int .i64 0, .int .i64 0, .bool false] ?c1 ?c2 ?c3 ?c4 ?_); (case d1 => rfl); (case d2 => rfl); (case c1 => exact HX6.out.q); (case c2 => exact info_rd); (case c3 => rfl); (case c4 => kernel_rfl))
    | fail)
  refine bodyPost_ret ((HX6.out.store _).ret rfl _ rfl rfl) rfl ?_
  exact ⟨Ax, cx, rfl, Kd.V_mono (Kd.V_step HR6.out (fun j hj _ => setRow_other _ _ j _ (HQ.out j hj).2)) (fun j hj => hj.imp (fun q => q.1) (fun q => Nat.le_trans HX.out.bel.size q)), (HX6.out.store _).bel⟩
theorem rcrash_calls {d : Ab} {P : Nat → Prop} (hok : d.Ok) (hb : pend d.steps ≤ 1152921504606846976) (hV : DV W P d.doc A1 c1 A2 c2) (n : Int) : Calls Try.prog 69 #[d.doc.val A1 c1 A2 c2, .int .i64 n] W fun e w => ∃ v, e = .returned v ∧ RPost W P (d.crash n).doc v w := by
  by_cases hd : d.down = true
  · have e1 : d.crash n = d := by simp [Ab.crash, hd]
    rw [e1]
    have h := rcrash_off (W := W) (rm := d.doc.room) (ac := d.doc.acts) (fl := d.doc.fails) (l := d.doc.l) (s := d.doc.s) (A1 := A1) (A2 := A2) (c1 := c1) (c2 := c2) n
    have e2 : d.doc.val A1 c1 A2 c2 = .agg #[.int .i64 d.doc.room, .slice A1 d.doc.l.length c1, .slice A2 d.doc.s.length c2, .int .i64 d.doc.acts, .int .i64 d.doc.fails, .bool true] := by
      unfold Rd.val
      rw [show d.doc.off = true from hd]
    rw [e2]
    exact h.mono fun e w ⟨q1, q2⟩ => ⟨_, q1, A1, c1, A2, c2, e2.symm, (hV.below q2).mono fun j hj => .inl hj, q2⟩
  · have hd : d.down = false := by simpa using hd
    have e2 : d.doc.val A1 c1 A2 c2 = .agg #[.int .i64 d.doc.room, .slice A1 d.doc.l.length c1, .slice A2 d.doc.s.length c2, .int .i64 d.doc.acts, .int .i64 d.doc.fails, .bool false] := by
      unfold Rd.val
      rw [show d.doc.off = false from hd]
    have e1 : d.crash n = { room := d.room, seen := d.left n, lasts := d.left n, steps := [], used := taken (d.left n), acts := d.acts, fails := 0, down := true } := by simp [Ab.crash, hd]
    have hL := left_f hok hb n (k := pend d.steps + 67108867) (by omega)
    rw [show d.doc.off = false from hd] at hL
    rw [e2, e1]
    exact (rcrash_on _ n _ hL hV.f hV.s).mono fun e w ⟨Ax, cx, q1, q2, q3⟩ => ⟨_, q1, Ax, cx, none, 0, rfl, ⟨q2, Kd.V_nil _ _ _ _ _⟩, q3⟩
end
end Gd

namespace Gd
open Go.Proofs.Ytidijiijciokpaa.Blocks Frm Go.Proofs.Ytidijiijciokpaa.U
set_option maxRecDepth 100000
section
variable {W : World} {rm ac fl : Int} {l : List S118} {s : List Sp} {A1 A2 : Option Addr} {c1 c2 : Nat} {off : Bool}
/-- The box of a document's disk that is only read. -/
structure B1 (W w : World) (b : Nat) (cs : Array Value) : Prop where
  p : w.heap[b]? = some (.cells cs 61 (0, 0))
  bel : Below W.heap.size W w
theorem B1.new (W : World) (cs : Array Value) : B1 W (W.alloc (.cells cs 61)) W.heap.size cs := ⟨blk_new W _, below_alloc (Below.refl _ _) _⟩
theorem B1.below {w w' : World} {b : Nat} {cs : Array Value} (h : B1 W w b cs) (hb : Below w.heap.size w w') : B1 W w' b cs := ⟨blk_below h.p hb, h.bel.trans (below_w hb h.bel.size)⟩
theorem B1.cells {w : World} {b : Nat} {x0 x1 x2 x3 x4 x5 : Value} (h : B1 W w b #[x0, x1, x2, x3, x4, x5]) : w.cell? ⟨b, 0, none⟩ = some x0 ∧ w.cell? ⟨b, 1, none⟩ = some x1 ∧ w.cell? ⟨b, 2, none⟩ = some x2 ∧ w.cell? ⟨b, 3, none⟩ = some x3 ∧ w.cell? ⟨b, 4, none⟩ = some x4 ∧ w.cell? ⟨b, 5, none⟩ = some x5 :=
  ⟨blk_cell h.p 0, blk_cell h.p 1, blk_cell h.p 2, blk_cell h.p 3, blk_cell h.p 4, blk_cell h.p 5⟩
theorem drawn_below {w w' : World} (h : Drawn0 w w') : Below w.heap.size w w' := Drawn0.below h
/-! The reference's small functions, over files. -/
theorem rplace {A : Option Addr} {c : Nat} {fs : Fs} (n : ByteArray) (hs : Srt fs) (hl : fs.length ≤ 1099511627777) (hC : Kd.C k118 W A (fs.map sp).length (fs.map sp)) (hc : fs.length ≤ c) :
    Calls Try.prog 97 #[.slice A fs.length c, .string n] W fun e w => e = .returned (.tuple #[.int .i64 (pos fs n : Int), .bool (get fs n).isSome]) ∧ Drawn0 W w := by
  have h := hawserref12_place.calls (fs.length + 1) A c (fs.map sp) n (pos fs n : Int) (get fs n).isSome W hC (by rw [List.length_map]; exact hc) (place_f n hs hl (by omega))
  rwa [List.length_map] at h
theorem rtaken {A : Option Addr} {c : Nat} {fs : Fs} (hl : fs.length ≤ 1099511627777) (ht : taken fs ≤ 1099511627776) (hC : Kd.C k118 W A (fs.map sp).length (fs.map sp)) (hc : fs.length ≤ c) :
    Calls Try.prog 74 #[.slice A fs.length c] W fun e w => e = .returned (.int .i64 (taken fs : Int)) ∧ Drawn0 W w := by
  have h := hawserref12_Taken.calls (fs.length + 1) A c (fs.map sp) (taken fs : Int) W hC (by rw [List.length_map]; exact hc) (taken_f hl ht (by omega))
  rwa [List.length_map] at h
theorem rname (n : ByteArray) (hn : n.size ≤ 2199023255552) : Calls Try.prog 98 #[.string n] W fun e w => e = .returned (.bool (isNm n)) ∧ Drawn0 W w :=
  hawserref12_IsName.calls (n.size + 1) n (isNm n) W (isName_f hn (by omega))
theorem rfiles {P : Nat → Prop} {fs : Fs} (k : Nat) (hF : hawserref12_Disk_Files.f k rm l s ac fl off = some (fs.map sp)) (hV : Kd.V k118 118 W 0 P (.slice A1 l.length c1) l) (hS : Kd.V k145 145 W 0 P (.slice A2 s.length c2) s) :
    Calls Try.prog 73 #[.agg #[.int .i64 rm, .slice A1 l.length c1, .slice A2 s.length c2, .int .i64 ac, .int .i64 fl, .bool off]] W fun e w => ∃ A c, e = .returned (.slice A fs.length c) ∧ fs.length ≤ c ∧ Kd.C k118 w A (fs.map sp).length (fs.map sp) ∧ Kd.V k118 118 w 0 (fun j => P j ∨ W.heap.size ≤ j) (.slice A (fs.map sp).length c) (fs.map sp) ∧ Below W.heap.size W w :=
  (hawserref12_Disk_Files.calls k rm P A1 c1 l A2 c2 s ac fl off (fs.map sp) W hV (Kd.V_reads' hS).2.2 (Kd.V_reads' hS).2.1 hF).mono fun e w ⟨v, q1, q2, q3⟩ => by
    obtain ⟨A, c, rfl⟩ := Kd.V_slice q2
    have h2 := Kd.V_reads' q2
    exact ⟨A, c, by rw [q1, List.length_map], by have := h2.2.1; rwa [List.length_map] at this, h2.2.2, q2, q3⟩
/-- What Read answers. -/
def readB (off : Bool) (fs : Fs) (n : ByteArray) : ByteArray := if off = true then ⟨#[]⟩ else if isNm n = false then ⟨#[]⟩ else dat fs n
def readE (off : Bool) (fs : Fs) (n : ByteArray) : Int := if off = true then 125 else if isNm n = false then 120 else if get fs n = none then 121 else 0
set_option maxHeartbeats 1000000 in
theorem rread_calls {P : Nat → Prop} (k : Nat) (fs : Fs) (n : ByteArray) (hs : Srt fs) (hl : fs.length ≤ 1099511627776) (hn : n.size ≤ 1099511627776) (hF : hawserref12_Disk_Files.f k rm l s ac fl off = some (fs.map sp)) (hV : Kd.V k118 118 W 0 P (.slice A1 l.length c1) l) (hS : Kd.V k145 145 W 0 P (.slice A2 s.length c2) s) :
    Calls Try.prog 101 #[.agg #[.int .i64 rm, .slice A1 l.length c1, .slice A2 s.length c2, .int .i64 ac, .int .i64 fl, .bool off], .string n] W fun e w => e = .returned (.tuple #[.string (readB off fs n), .int .i64 (readE off fs n)]) ∧ Below W.heap.size W w := by
  have HX := Aside0.mk (B1.new W #[.int .i64 rm, .slice A1 l.length c1, .slice A2 s.length c2, .int .i64 ac, .int .i64 fl, .bool off])
  have HV := Aside0.mk (fun w (h : Below W.heap.size W w) => And.intro (Kd.V_below hV h) (Kd.V_below hS h))
  have HF := Aside0.mk hF
  have HN := Aside0.mk (fun w => rname (W := w) n (by omega))
  have HS := Aside0.mk hs
  have HLn := Aside0.mk (show fs.length ≤ 1099511627777 by omega)
  clear hF hV hS hs hl hn
  rcases off with _ | _
  rotate_left
  · go_enter Try.func101, Try.ntmps101
    go_upto_region 1 with fail
    generalize W.alloc _ = w1 at HX ⊢
    obtain ⟨c0, c1', c2', c3, c4, c5⟩ := HX.out.cells
    go_wp2
    go_ret2
    exact ⟨rfl, HX.out.bel⟩
  by_cases hnm : isNm n = false
  · have HE := Aside0.mk (show readB false fs n = ⟨#[]⟩ ∧ readE false fs n = 120 by simp [readB, readE, hnm])
    rw [hnm] at HN
    go_enter Try.func101, Try.ntmps101
    go_upto_region 1 with fail
    generalize W.alloc _ = w1 at HX ⊢
    obtain ⟨c0, c1', c2', c3, c4, c5⟩ := HX.out.cells
    go_wp2_with (first
      | (go_at_call 98; refine Calls.mono (HN.out w1) ?_; rintro e w2 ⟨rfl, hd⟩; (have HX2 := Aside0.mk (HX.out.below (drawn_below hd))); clear hd)
      | fail)
    go_ret2
    rw [HE.out.1, HE.out.2]
    exact ⟨rfl, HX2.out.bel⟩
  have hnm : isNm n = true := by simpa using hnm
  rw [hnm] at HN
  rcases hg : get fs n with _ | d
  · have HE := Aside0.mk (show readB false fs n = ⟨#[]⟩ ∧ readE false fs n = 121 by simp [readB, readE, hnm, dat, hg])
    have HG := Aside0.mk (show (get fs n).isSome = false by rw [hg]; rfl)
    clear hnm hg
    go_enter Try.func101, Try.ntmps101
    go_upto_region 1 with fail
    generalize W.alloc _ = w1 at HX ⊢
    obtain ⟨c0, c1', c2', c3, c4, c5⟩ := HX.out.cells
    go_wp2_with (first
      | (go_at_call 98; refine Calls.mono (HN.out w1) ?_; rintro e w2 ⟨rfl, hd⟩; (have HX2 := Aside0.mk (HX.out.below (drawn_below hd))); clear hd c0 c1' c2' c3 c4 c5; obtain ⟨c0, c1', c2', c3, c4, c5⟩ := HX2.out.cells)
      | (go_at_call 73; refine Calls.mono (rfiles k HF.out (HV.out _ HX2.out.bel).1 (HV.out _ HX2.out.bel).2) ?_; rintro e w3 ⟨Ax, cx, rfl, h1, h2, _, h3⟩; (have HX3 := Aside0.mk (HX2.out.below h3)); (have HR := Aside0.mk (And.intro h1 h2)); clear h1 h2 h3)
      | (go_at_call 97; refine Calls.mono (rplace n HS.out HLn.out HR.out.2 HR.out.1) ?_; rw [HG.out]; rintro e w4 ⟨rfl, hd⟩; (have HX4 := Aside0.mk (HX3.out.below (drawn_below hd))); clear hd)
      | fail)
    go_ret2
    rw [HE.out.1, HE.out.2]
    exact ⟨rfl, HX4.out.bel⟩
  · have HE := Aside0.mk (show readB false fs n = d ∧ readE false fs n = 0 by simp [readB, readE, hnm, dat, hg])
    have HG := Aside0.mk (show (get fs n).isSome = true by rw [hg]; rfl)
    have HA := Aside0.mk (And.intro (pos_some HS.out hg) (pos_get HS.out hg))
    have hp1 : (0 : Int) ≤ (pos fs n : Int) := by omega
    have hp2 : (pos fs n : Int) < (fs.length : Int) := by have := HA.out.1; omega
    clear hnm hg
    go_enter Try.func101, Try.ntmps101
    go_upto_region 1 with fail
    generalize W.alloc _ = w1 at HX ⊢
    obtain ⟨c0, c1', c2', c3, c4, c5⟩ := HX.out.cells
    go_wp2_with (first
      | (go_at_call 98; refine Calls.mono (HN.out w1) ?_; rintro e w2 ⟨rfl, hd⟩; (have HX2 := Aside0.mk (HX.out.below (drawn_below hd))); clear hd c0 c1' c2' c3 c4 c5; obtain ⟨c0, c1', c2', c3, c4, c5⟩ := HX2.out.cells)
      | (go_at_call 73; refine Calls.mono (rfiles k HF.out (HV.out _ HX2.out.bel).1 (HV.out _ HX2.out.bel).2) ?_; rintro e w3 ⟨Ax, cx, rfl, h1, h2, _, h3⟩; (have HX3 := Aside0.mk (HX2.out.below h3)); (have HR := Aside0.mk (And.intro h1 h2)); clear h1 h2 h3)
      | (go_at_call 97; refine Calls.mono (rplace n HS.out HLn.out HR.out.2 HR.out.1) ?_; rw [HG.out]; rintro e w4 ⟨rfl, hd⟩; (have HX4 := Aside0.mk (HX3.out.below (drawn_below hd))); obtain ⟨ad, hA, x0, x1⟩ := sp_cells (Kd.C_below HR.out.2 (drawn_below hd)) HA.out.1; subst hA; clear hd; (have e1 : fs[pos fs n]'HA.out.1 = (n, d) := by have h9 := HA.out.2; rw [List.getElem?_eq_getElem HA.out.1] at h9; exact Option.some.inj h9); rw [e1] at x0 x1; clear e1)
      | fail)
    go_ret2
    rw [HE.out.1, HE.out.2]
    exact ⟨rfl, HX4.out.bel⟩
end
end Gd

end Go.Proofs.Ytidijiijciokpaa.G
