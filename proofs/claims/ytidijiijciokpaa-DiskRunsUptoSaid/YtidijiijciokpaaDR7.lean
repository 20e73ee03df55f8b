import Derived.Test.YtidijiijciokpaaDR4
import Derived.Laws.BytesArg
import Derived.Lib.ConvBytes
import Derived.Maps.OwnOps
import Derived.WideMake
import Derived.Laws.IdiomRangeMap
import Derived.Maps.AppendAt
import Derived.Deep.RegionLaw
import Derived.ArgAppend
import Derived.Maps.RangeRun
import Derived.Deep.Upon
import Derived.Deep.QuietTactic
import Derived.BigQuiet
import Derived.Deep.RegionHeld3
import Derived.Deep.DeepCutAuto
import Derived.Deep.CutBlock
import Derived.Laws.EntriesVeiled
import Derived.StillTailTactics
import Derived.Laws.Tables
import Derived.Laws.CopyOwn
import Derived.IntWalk
import Derived.Test.YtidijiijciokpaaBlocks
import Derived.Laws.CopyOwn
import Derived.Laws.Tables
import Derived.Outline
namespace Go.Proofs.Ytidijiijciokpaa.G
open Go.RowKit Go.Proofs.YtidijiijciokpaaW.PrintWords Go.Proofs.YtidijiijciokpaaW.PrintLast Go.Proofs.YtidijiijciokpaaW.PrintMore
set_option linter.unusedVariables false
set_option linter.unusedSimpArgs false
namespace Gd
open Go.Proofs.Ytidijiijciokpaa.Blocks Frm Go.Proofs.Ytidijiijciokpaa.U
set_option maxRecDepth 100000
section
variable {W : World} {rm ac fl : Int} {l : List S118} {s : List Sp} {A1 A2 : Option Addr} {c1 c2 : Nat} {off : Bool}
theorem results_cell_slot {P : Program} {fn : Func} {p s : Tmp} {ty : TypeId} (h : fn.results = #[.cell p ty, .tmp s]) (tmps : Array Value) (w : World) (g : Nat) (t : TypeId) (cs : Array Value) (fr : Nat × Nat) (d : TypeDesc)
    (hp : tmps.getD p undef = .pointer (some ⟨g, 0, none⟩)) (hg : w.heap[g]? = some (.cells cs t fr))
    (hu : P.underlying ty = some d) (hd : (match d with | .struct _ | .array _ _ => true | _ => false) = true) (hi : (P.info? ty).map (·.size) = some cs.size) :
    (results fn tmps).run P w = .ok (.tuple #[.agg cs, tmps.getD s undef]) w := by
  have hp' : tmps[p]?.getD undef = .pointer (some ⟨g, 0, none⟩) := by simpa using hp
  simp [results, h, hp', asAddr, run_loadVar_row w g t ty cs fr d hg hu hd hi]
/-- The boxes of Do: the disk's, the act's, the answer's. -/
structure B3 (W w : World) (cs ys rs : Array Value) : Prop where
  p : w.heap[W.heap.size]? = some (.cells cs 61 (0, 0))
  q : w.heap[W.heap.size + 1]? = some (.cells ys 45 (0, 0))
  z : w.heap[W.heap.size + 2]? = some (.cells rs 61 (0, 0))
  bel : Below W.heap.size W w
theorem B3.new (W : World) (cs ys rs : Array Value) : B3 W (((W.alloc (.cells cs 61)).alloc (.cells ys 45)).alloc (.cells rs 61)) cs ys rs := by
  have h1 : (W.alloc (.cells cs 61)).heap.size = W.heap.size + 1 := World.size_alloc _ _
  have h2 : ((W.alloc (.cells cs 61)).alloc (.cells ys 45)).heap.size = W.heap.size + 2 := by rw [World.size_alloc, h1]
  refine ⟨blk_alloc (blk_alloc (blk_new W _) _) _, ?_, ?_, below_alloc (below_alloc (below_alloc (Below.refl _ _) _) _) _⟩
  · have := blk_alloc (blk_new (W.alloc (.cells cs 61)) (.cells ys 45)) (.cells rs 61)
    rwa [h1] at this
  · have := blk_new ((W.alloc (.cells cs 61)).alloc (.cells ys 45)) (.cells rs 61)
    rwa [h2] at this
theorem B3.lt {w : World} {cs ys rs : Array Value} (h : B3 W w cs ys rs) : W.heap.size + 3 ≤ w.heap.size := blk_lt h.z
theorem B3.below {w w' : World} {cs ys rs : Array Value} (h : B3 W w cs ys rs) (hb : Below w.heap.size w w') : B3 W w' cs ys rs := ⟨blk_below h.p hb, blk_below h.q hb, blk_below h.z hb, h.bel.trans (below_w hb h.bel.size)⟩
theorem B3.setB {w : World} {cs ys rs : Array Value} (h : B3 W w cs ys rs) (i : Nat) (v : Value) {cs' : Array Value} (e : cs.setIfInBounds i v = cs') : B3 W (w.setCell ⟨W.heap.size, i, none⟩ v) cs' ys rs :=
  ⟨blk_put h.p i v e, blk_far h.q (fun e => by have e : W.heap.size + 1 = W.heap.size := e; omega) _, blk_far h.z (fun e => by have e : W.heap.size + 2 = W.heap.size := e; omega) _, h.bel.setCell (Nat.le_refl _) _⟩
theorem B3.store {w : World} {cs ys rs : Array Value} (h : B3 W w cs ys rs) (cs' : Array Value) : B3 W (w.setRow (W.heap.size + 2) cs') cs ys cs' :=
  ⟨(setRow_other w (W.heap.size + 2) W.heap.size cs' (by omega)).trans h.p, (setRow_other w (W.heap.size + 2) (W.heap.size + 1) cs' (by omega)).trans h.q, setRow_heap w (W.heap.size + 2) rs cs' _ (0, 0) h.z, below_setRow h.bel (by omega) _⟩
theorem B3.cells {w : World} {x0 x1 x2 x3 x4 x5 y0 y1 y2 y3 y4 : Value} {rs : Array Value} (h : B3 W w #[x0, x1, x2, x3, x4, x5] #[y0, y1, y2, y3, y4] rs) : (w.cell? ⟨W.heap.size, 0, none⟩ = some x0 ∧ w.cell? ⟨W.heap.size, 1, none⟩ = some x1 ∧ w.cell? ⟨W.heap.size, 2, none⟩ = some x2 ∧ w.cell? ⟨W.heap.size, 3, none⟩ = some x3 ∧ w.cell? ⟨W.heap.size, 4, none⟩ = some x4 ∧ w.cell? ⟨W.heap.size, 5, none⟩ = some x5) ∧ (w.cell? ⟨W.heap.size + 1, 0, none⟩ = some y0 ∧ w.cell? ⟨W.heap.size + 1, 1, none⟩ = some y1 ∧ w.cell? ⟨W.heap.size + 1, 2, none⟩ = some y2 ∧ w.cell? ⟨W.heap.size + 1, 3, none⟩ = some y3 ∧ w.cell? ⟨W.heap.size + 1, 4, none⟩ = some y4) ∧ ∀ i, w.frozen? ⟨W.heap.size, i, none⟩ = false :=
  ⟨⟨blk_cell h.p 0, blk_cell h.p 1, blk_cell h.p 2, blk_cell h.p 3, blk_cell h.p 4, blk_cell h.p 5⟩, ⟨blk_cell h.q 0, blk_cell h.q 1, blk_cell h.q 2, blk_cell h.q 3, blk_cell h.q 4⟩, fun i => blk_frozen h.p i⟩
theorem B3.ret {w : World} {cs ys rs : Array Value} (h : B3 W w cs ys rs) {fn : Func} {p t : Tmp} (hf : fn.results = #[.cell p 61, .tmp t]) (tmps : Array Value) (hp : tmps.getD p undef = .pointer (some ⟨W.heap.size + 2, 0, none⟩)) (hs : rs.size = 6) : (results fn tmps).run Try.prog w = .ok (.tuple #[.agg rs, tmps.getD t undef]) w :=
  results_cell_slot (P := Try.prog) hf _ _ (W.heap.size + 2) 61 rs (0, 0) _ hp h.z Try.underlying61 rfl (by rw [info_rd, hs])
theorem rdo_off (d : Ab) (kd : Int) (nm to_ dt : ByteArray) (sz : Int) : Calls Try.prog 67 #[.agg #[.int .i64 (d.room : Int), .slice A1 l.length c1, .slice A2 s.length c2, .int .i64 ac, .int .i64 fl, .bool true], .agg #[.int .i64 kd, .string nm, .string to_, .string dt, .int .i64 sz]] W fun e w => e = .returned (.tuple #[.agg #[.int .i64 (d.room : Int), .slice A1 l.length c1, .slice A2 s.length c2, .int .i64 ac, .int .i64 fl, .bool true], .int .i64 125]) ∧ Below W.heap.size W w := by
  have HX := Aside0.mk (B3.new W #[.int .i64 (d.room : Int), .slice A1 l.length c1, .slice A2 s.length c2, .int .i64 ac, .int .i64 fl, .bool true] #[.int .i64 kd, .string nm, .string to_, .string dt, .int .i64 sz] #[.int .i64 0, .slice none 0 0, .slice none 0 0, .int .i64 0, .int .i64 0, .bool false])
  go_enter Try.func67, Try.ntmps67
  go_upto_region 1 with fail
  generalize ((W.alloc _).alloc _).alloc _ = w1 at HX ⊢
  obtain ⟨⟨c0, c1', c2', c3, c4, c5⟩, ⟨a0, a1, a2, a3, a4⟩, hf⟩ := HX.out.cells
  clear hf
  go_wp2_with (first
    | ((with_reducible refine wpList_store_row rfl 61 (.tmp 4) (.tmp 11) rfl (W.heap.size + 2) #[.int .i64 (d.room : Int), .slice A1 l.length c1, .slice A2 s.length c2, .int .i64 ac, .int .i64 fl, .bool true] ?d1 ?d2 61 #[.int .i64 0, .slice none 0 0, .slice none 0 0, .int .i64 0, .int .i64 0, .bool false] ?c1 ?c2 ?c3 ?c4 ?_); (case d1 => rfl); (case d2 => rfl); (case c1 => exact HX.out.z); (case c2 => exact info_rd); (case c3 => rfl); (case c4 => kernel_rfl))
    | fail)
  refine bodyPost_ret ((HX.out.store _).ret rfl _ rfl rfl) rfl ?_
  exact ⟨rfl, (HX.out.store _).bel⟩
theorem rdo_ref {d : Ab} {P : Nat → Prop} (hok : d.Ok) (k : Nat) (hF : ∀ a f o, hawserref12_Disk_Files.f k (d.room : Int) l s a f o = some (d.seen.map sp)) (hV : Kd.V k118 118 W 0 P (.slice A1 l.length c1) l) (hS : Kd.V k145 145 W 0 P (.slice A2 s.length c2) s)
    (kd : Int) (nm to_ dt : ByteArray) (sz : Int) (hk : 1 ≤ kd ∧ kd ≤ 6) (hn : nm.size ≤ 1099511627776) (hto : to_.size ≤ 549755813888) (hdt : dt.size ≤ 549755813888) (e : Int) (he : d.refuse kd nm to_ dt sz = e) (he0 : e ≠ 0) : Calls Try.prog 67 #[.agg #[.int .i64 (d.room : Int), .slice A1 l.length c1, .slice A2 s.length c2, .int .i64 ac, .int .i64 fl, .bool false], .agg #[.int .i64 kd, .string nm, .string to_, .string dt, .int .i64 sz]] W fun r w => r = .returned (.tuple #[.agg #[.int .i64 (d.room : Int), .slice A1 l.length c1, .slice A2 s.length c2, .int .i64 ac, .int .i64 fl, .bool false], .int .i64 e]) ∧ Below W.heap.size W w := by
  have HX := Aside0.mk (B3.new W #[.int .i64 (d.room : Int), .slice A1 l.length c1, .slice A2 s.length c2, .int .i64 ac, .int .i64 fl, .bool false] #[.int .i64 kd, .string nm, .string to_, .string dt, .int .i64 sz] #[.int .i64 0, .slice none 0 0, .slice none 0 0, .int .i64 0, .int .i64 0, .bool false])
  have HV := Aside0.mk (fun w (h : Below W.heap.size W w) => And.intro (Kd.V_below hV h) (Kd.V_below hS h))
  have HRF := Aside0.mk (fun w (h : Below W.heap.size W w) => rrefused_calls (W := w) hok k (hF ac fl false) (Kd.V_below hV h) (Kd.V_below hS h) kd nm to_ dt sz hk hn hto (by omega))
  have n0 : (e == 0) = false := beq_false_of_ne he0
  have n1 : (e != 0) = true := by simpa using he0
  rw [he] at HRF
  clear hV hS hF he he0 hn hto hdt hk
  go_enter Try.func67, Try.ntmps67
  go_upto_region 1 with fail
  generalize ((W.alloc _).alloc _).alloc _ = w1 at HX ⊢
  obtain ⟨⟨c0, c1', c2', c3, c4, c5⟩, ⟨a0, a1, a2, a3, a4⟩, hf⟩ := HX.out.cells
  go_wp2_with (first
    | (go_at_call 100; refine Calls.mono (HRF.out w1 HX.out.bel) ?_; rintro e w2 ⟨rfl, hb⟩; (have HX2 := Aside0.mk (HX.out.below hb)); clear hb hf c0 c1' c2' c3 c4 c5 a0 a1 a2 a3 a4; obtain ⟨⟨c0, c1', c2', c3, c4, c5⟩, ⟨a0, a1, a2, a3, a4⟩, hf⟩ := HX2.out.cells)
    | ((with_reducible refine wpList_store_row rfl 61 (.tmp 4) (.tmp 17) rfl (W.heap.size + 2) #[.int .i64 (d.room : Int), .slice A1 l.length c1, .slice A2 s.length c2, .int .i64 ac, .int .i64 fl, .bool false] ?d1 ?d2 61 #[.int .i64 0, .slice none 0 0, .slice none 0 0, .int .i64 0, .int .i64 0, .bool false] ?c1 ?c2 ?c3 ?c4 ?_); (case d1 => rfl); (case d2 => rfl); (case c1 => exact HX2.out.z); (case c2 => exact info_rd); (case c3 => rfl); (case c4 => kernel_rfl))
    | fail)
  refine bodyPost_ret ((HX2.out.store _).ret rfl _ rfl rfl) rfl ?_
  exact ⟨rfl, (HX2.out.store _).bel⟩
theorem rdo_fail {d : Ab} {P : Nat → Prop} (hok : d.Ok) (k : Nat) (hF : ∀ a f o, hawserref12_Disk_Files.f k (d.room : Int) l s a f o = some (d.seen.map sp)) (hV : Kd.V k118 118 W 0 P (.slice A1 l.length c1) l) (hS : Kd.V k145 145 W 0 P (.slice A2 s.length c2) s)
    (kd : Int) (nm to_ dt : ByteArray) (sz : Int) (hk : 1 ≤ kd ∧ kd ≤ 6) (hn : nm.size ≤ 1099511627776) (hto : to_.size ≤ 549755813888) (hdt : dt.size ≤ 549755813888) (he : d.refuse kd nm to_ dt sz = 0) (hac : -9223372036854775808 ≤ ac + 1 ∧ ac + 1 ≤ 9223372036854775807) (hfl : fl = 1) : Calls Try.prog 67 #[.agg #[.int .i64 (d.room : Int), .slice A1 l.length c1, .slice A2 s.length c2, .int .i64 ac, .int .i64 fl, .bool false], .agg #[.int .i64 kd, .string nm, .string to_, .string dt, .int .i64 sz]] W fun r w => r = .returned (.tuple #[.agg #[.int .i64 (d.room : Int), .slice A1 l.length c1, .slice A2 s.length c2, .int .i64 (ac + 1), .int .i64 0, .bool false], .int .i64 124]) ∧ Below W.heap.size W w := by
  subst hfl
  have HX := Aside0.mk (B3.new W #[.int .i64 (d.room : Int), .slice A1 l.length c1, .slice A2 s.length c2, .int .i64 ac, .int .i64 1, .bool false] #[.int .i64 kd, .string nm, .string to_, .string dt, .int .i64 sz] #[.int .i64 0, .slice none 0 0, .slice none 0 0, .int .i64 0, .int .i64 0, .bool false])
  have HV := Aside0.mk (fun w (h : Below W.heap.size W w) => And.intro (Kd.V_below hV h) (Kd.V_below hS h))
  have HRF := Aside0.mk (fun w (h : Below W.heap.size W w) => rrefused_calls (W := w) hok k (hF ac 1 false) (Kd.V_below hV h) (Kd.V_below hS h) kd nm to_ dt sz hk hn hto (by omega))
  have wa := i64_of hac
  rw [he] at HRF
  clear hV hS hF he hn hto hdt hk hac
  go_enter Try.func67, Try.ntmps67
  go_upto_region 1 with fail
  generalize ((W.alloc _).alloc _).alloc _ = w1 at HX ⊢
  obtain ⟨⟨c0, c1', c2', c3, c4, c5⟩, ⟨a0, a1, a2, a3, a4⟩, hf⟩ := HX.out.cells
  go_upto_region 6 with (first
    | (go_at_call 100; refine Calls.mono (HRF.out w1 HX.out.bel) ?_; rintro e w2 ⟨rfl, hb⟩; (have HX2 := Aside0.mk (HX.out.below hb)); clear hb hf c0 c1' c2' c3 c4 c5 a0 a1 a2 a3 a4; obtain ⟨⟨c0, c1', c2', c3, c4, c5⟩, ⟨a0, a1, a2, a3, a4⟩, hf⟩ := HX2.out.cells)
    | fail)
  have f3 := hf 3
  clear hf
  go_upto_region 7 with fail
  have HX3 := Aside0.mk (HX2.out.setB 3 (.int .i64 (ac + 1)) rfl)
  clear c0 c1' c2' c3 c4 c5 a0 a1 a2 a3 a4 f3 HX2
  generalize w2.setCell _ _ = w3 at HX3 ⊢
  obtain ⟨⟨c0, c1', c2', c3, c4, c5⟩, ⟨a0, a1, a2, a3, a4⟩, hf⟩ := HX3.out.cells
  have f4 := hf 4
  clear hf
  go_upto_region 9 with fail
  have HX4 := Aside0.mk (HX3.out.setB 4 (.int .i64 0) rfl)
  clear c0 c1' c2' c3 c4 c5 a0 a1 a2 a3 a4 f4 HX3
  generalize w3.setCell _ _ = w4 at HX4 ⊢
  obtain ⟨⟨c0, c1', c2', c3, c4, c5⟩, ⟨a0, a1, a2, a3, a4⟩, hf⟩ := HX4.out.cells
  clear hf
  go_wp2_with (first
    | ((with_reducible refine wpList_store_row rfl 61 (.tmp 4) (.tmp 27) rfl (W.heap.size + 2) #[.int .i64 (d.room : Int), .slice A1 l.length c1, .slice A2 s.length c2, .int .i64 (ac + 1), .int .i64 0, .bool false] ?d1 ?d2 61 #[.int .i64 0, .slice none 0 0, .slice none 0 0, .int .i64 0, .int .i64 0, .bool false] ?c1 ?c2 ?c3 ?c4 ?_); (case d1 => rfl); (case d2 => rfl); (case c1 => exact HX4.out.z); (case c2 => exact info_rd); (case c3 => rfl); (case c4 => kernel_rfl))
    | fail)
  refine bodyPost_ret ((HX4.out.store _).ret rfl _ rfl rfl) rfl ?_
  exact ⟨rfl, (HX4.out.store _).bel⟩
set_option maxHeartbeats 1000000 in
theorem rdo_sync {d : Ab} {P : Nat → Prop} (hok : d.Ok) (k : Nat) (hF : ∀ a f o, hawserref12_Disk_Files.f k (d.room : Int) l s a f o = some (d.seen.map sp)) (hV : Kd.V k118 118 W 0 P (.slice A1 l.length c1) l) (hS : Kd.V k145 145 W 0 P (.slice A2 s.length c2) s)
    (kd : Int) (nm to_ dt : ByteArray) (sz : Int) (hk : 1 ≤ kd ∧ kd ≤ 6) (hn : nm.size ≤ 1099511627776) (hto : to_.size ≤ 549755813888) (hdt : dt.size ≤ 549755813888) (he : d.refuse kd nm to_ dt sz = 0) (hac : -9223372036854775808 ≤ ac + 1 ∧ ac + 1 ≤ 9223372036854775807) (hfl : 0 ≤ fl ∧ fl ≤ 9223372036854775807) (hf1 : fl ≠ 1) (fl' : Int) (hfl' : (1 < fl → fl' = fl - 1) ∧ (¬ 1 < fl → fl' = fl)) (h6 : kd = 6) : Calls Try.prog 67 #[.agg #[.int .i64 (d.room : Int), .slice A1 l.length c1, .slice A2 s.length c2, .int .i64 ac, .int .i64 fl, .bool false], .agg #[.int .i64 kd, .string nm, .string to_, .string dt, .int .i64 sz]] W fun r w => ∃ Ax cx, r = .returned (.tuple #[.agg #[.int .i64 (d.room : Int), .slice Ax d.seen.length cx, .slice none 0 0, .int .i64 (ac + 1), .int .i64 fl', .bool false], .int .i64 0]) ∧ Kd.V k118 118 w 0 (fun j => P j ∨ W.heap.size ≤ j) (.slice Ax (d.seen.map sp).length cx) (d.seen.map sp) ∧ Below W.heap.size W w := by
  subst h6
  have HX := Aside0.mk (B3.new W #[.int .i64 (d.room : Int), .slice A1 l.length c1, .slice A2 s.length c2, .int .i64 ac, .int .i64 fl, .bool false] #[.int .i64 6, .string nm, .string to_, .string dt, .int .i64 sz] #[.int .i64 0, .slice none 0 0, .slice none 0 0, .int .i64 0, .int .i64 0, .bool false])
  have HV := Aside0.mk (fun w (h : Below W.heap.size W w) => And.intro (Kd.V_below (Kd.V_bound hV) h) (Kd.V_below (Kd.V_bound hS) h))
  have HRF := Aside0.mk (fun w (h : Below W.heap.size W w) => rrefused_calls (W := w) hok k (hF ac fl false) (Kd.V_below hV h) (Kd.V_below hS h) 6 nm to_ dt sz hk hn hto (by omega))
  have HF := Aside0.mk hF
  have wa := i64_of hac
  have n1 : (fl == 1) = false := beq_false_of_ne hf1
  have wb : 1 < fl → IntKind.i64.wrap (fl - 1) = fl - 1 := fun h => i64_of (by omega)
  have HFL := Aside0.mk (And.intro hfl' wb)
  rw [he] at HRF
  have HN := Aside0.mk (And.intro hn (And.intro hto hdt))
  have HK := Aside0.mk hk
  clear hV hS hF he hn hto hdt hac hfl hf1 hfl' wb hk
  go_enter Try.func67, Try.ntmps67
  go_upto_region 1 with fail
  generalize ((W.alloc _).alloc _).alloc _ = w1 at HX ⊢
  obtain ⟨⟨c0, c1', c2', c3, c4, c5⟩, ⟨a0, a1, a2, a3, a4⟩, hf⟩ := HX.out.cells
  go_upto_region 6 with (first
    | (go_at_call 100; refine Calls.mono (HRF.out w1 HX.out.bel) ?_; rintro e w2 ⟨rfl, hb⟩; (have HX2 := Aside0.mk (HX.out.below hb)); clear hb hf c0 c1' c2' c3 c4 c5 a0 a1 a2 a3 a4; obtain ⟨⟨c0, c1', c2', c3, c4, c5⟩, ⟨a0, a1, a2, a3, a4⟩, hf⟩ := HX2.out.cells)
    | fail)
  have f3 := hf 3
  clear hf
  go_upto_region 7 with fail
  have HX3 := Aside0.mk (HX2.out.setB 3 (.int .i64 (ac + 1)) rfl)
  clear c0 c1' c2' c3 c4 c5 a0 a1 a2 a3 a4 f3 HX2
  generalize w2.setCell _ _ = w3 at HX3 ⊢
  obtain ⟨⟨c0, c1', c2', c3, c4, c5⟩, ⟨a0, a1, a2, a3, a4⟩, hf⟩ := HX3.out.cells
  have f4 := hf 4
  clear hf
  go_upto_if 30 with fail
  go_cut [] (fun wc => Aside0 (B3 W wc #[.int .i64 (d.room : Int), .slice A1 l.length c1, .slice A2 s.length c2, .int .i64 (ac + 1), .int .i64 fl', .bool false] #[.int .i64 6, .string nm, .string to_, .string dt, .int .i64 sz] #[.int .i64 0, .slice none 0 0, .slice none 0 0, .int .i64 0, .int .i64 0, .bool false]))
  case first =>
    by_cases h1 : 1 < fl
    · have d1 : decide (1 < fl) = true := decide_eq_true h1
      have w9 := HFL.out.2 h1
      have HE := Aside0.mk (HFL.out.1.1 h1)
      go_wp2
      go_meet
      case rel => exact ⟨HX3.out.setB 4 _ (by rw [HE.out]; rfl)⟩
    · have d1 : decide (1 < fl) = false := decide_eq_false h1
      have HE := Aside0.mk (HFL.out.1.2 (by omega))
      go_wp2
      go_meet
      case rel => exact ⟨by rw [HE.out]; exact HX3.out⟩
  case rest =>
  have HXc := hcut
  clear hcut c0 c1' c2' c3 c4 c5 a0 a1 a2 a3 a4 f4 HX3 HFL HRF
  obtain ⟨⟨c0, c1', c2', c3, c4, c5⟩, ⟨a0, a1, a2, a3, a4⟩, hf⟩ := HXc.out.cells
  clear hf
  have HQ := Aside0.mk (show ∀ j, ((P j ∧ j < W.heap.size) ∨ wc.heap.size ≤ j) → (j ≠ W.heap.size ∧ j ≠ W.heap.size + 2) from fun j hj => by
    have := HXc.out.lt
    omega)
  go_upto_region 14 with (first
    | (go_at_call 73; refine Calls.mono (rfiles k (HF.out _ _ _) (HV.out _ HXc.out.bel).1 (HV.out _ HXc.out.bel).2) ?_; rintro e w5 ⟨Ax, cx, rfl, h1, h2, h5, h3⟩; (have HX5 := Aside0.mk (HXc.out.below h3)); (have HR := Aside0.mk h5); clear h1 h2 h3 h5 c0 c1' c2' c3 c4 c5 a0 a1 a2 a3 a4; (have c1' : w5.cell? ⟨W.heap.size, 1, none⟩ = some (.slice A1 l.length c1) := HX5.out.cells.1.2.1); (have f1 : w5.frozen? ⟨W.heap.size, 1, none⟩ = false := HX5.out.cells.2.2 1))
    | fail)
  have HX6 := Aside0.mk (HX5.out.setB 1 (.slice Ax d.seen.length cx) rfl)
  have HR6 := Aside0.mk (Kd.V_far (p := ⟨W.heap.size, 1, none⟩) HR.out (fun j hj => (HQ.out j hj).1) (.slice Ax d.seen.length cx))
  clear c1' f1 HX5 HR
  generalize w5.setCell _ _ = w6 at HX6 HR6 ⊢
  obtain ⟨⟨c0, c1', c2', c3, c4, c5⟩, ⟨a0, a1, a2, a3, a4⟩, hf⟩ := HX6.out.cells
  have f2 := hf 2
  clear hf
  go_upto_region 15 with fail
  have HX7 := Aside0.mk (HX6.out.setB 2 (.slice none 0 0) rfl)
  have HR7 := Aside0.mk (Kd.V_far (p := ⟨W.heap.size, 2, none⟩) HR6.out (fun j hj => (HQ.out j hj).1) (.slice none 0 0))
  clear c0 c1' c2' c3 c4 c5 a0 a1 a2 a3 a4 f2 HX6 HR6
  generalize w6.setCell _ _ = w7 at HX7 HR7 ⊢
  obtain ⟨⟨c0, c1', c2', c3, c4, c5⟩, ⟨a0, a1, a2, a3, a4⟩, hf⟩ := HX7.out.cells
  clear hf
  go_wp2_with (first
    | ((with_reducible refine wpList_store_row rfl 61 (.tmp 4) (.tmp 42) rfl (W.heap.size + 2) #[.int .i64 (d.room : Int), .slice Ax d.seen.length cx, .slice none 0 0, .int .i64 (ac + 1), .int .i64 fl', .bool false] ?d1 ?d2 61 #[.int .i64 0, .slice none 0 0, .slice none 0 0, .int .i64 0, .int .i64 0, .bool false] ?c1 ?c2 ?c3 ?c4 ?_); (case d1 => rfl); (case d2 => rfl); (case c1 => exact HX7.out.z); (case c2 => exact info_rd); (case c3 => rfl); (case c4 => kernel_rfl))
    | fail)
  refine bodyPost_ret ((HX7.out.store _).ret rfl _ rfl rfl) rfl ?_
  exact ⟨Ax, cx, rfl, Kd.V_mono (Kd.V_step HR7.out (fun j hj _ => setRow_other _ _ j _ (HQ.out j hj).2)) (fun j hj => hj.imp (fun q => q.1) (fun q => Nat.le_trans HXc.out.bel.size q)), (HX7.out.store _).bel⟩
theorem info_stp : (Try.prog.info? 145).map (fun i => (i.zero, i.size, i.bytes)) = some (some (.agg #[.int .i64 0, .string ⟨#[]⟩, .string ⟨#[]⟩, .int .u8 0, .int .i64 0]), 5, 56) := by kernel_rfl
/-- What the loop of bytes lays. -/
def bytesSt (kd : Int) (nm dt : ByteArray) : List Sp := if kd = 2 then expn (.laid nm dt) else []
theorem expn_laid_at {nm dt : ByteArray} {i : Nat} (h : i < dt.size) : (expn (.laid nm dt)).take (i + 1) = (expn (.laid nm dt)).take i ++ [⟨2, nm, ⟨#[]⟩, ((dt[i]'h).toNat : Int), 0⟩] := by
  have hl : i < (expn (.laid nm dt)).length := by rw [expn_len]; exact h
  rw [List.take_succ_eq_append_getElem hl]
  congr 2
  simp [expn, bytesOf]
  rfl
set_option maxHeartbeats 4000000 in
theorem rdo_rest {d : Ab} {P : Nat → Prop} (hok : d.Ok) (k : Nat) (hF : ∀ a f o, hawserref12_Disk_Files.f k (d.room : Int) l s a f o = some (d.seen.map sp)) (hV : Kd.V k118 118 W 0 P (.slice A1 l.length c1) l) (hS : Kd.V k145 145 W 0 P (.slice A2 s.length c2) s)
    (kd : Int) (nm to_ dt : ByteArray) (sz : Int) (hk : 1 ≤ kd ∧ kd ≤ 6) (hn : nm.size ≤ 1099511627776) (hto : to_.size ≤ 549755813888) (hdt : dt.size ≤ 549755813888) (he : d.refuse kd nm to_ dt sz = 0) (hac : -9223372036854775808 ≤ ac + 1 ∧ ac + 1 ≤ 9223372036854775807) (hfl : 0 ≤ fl ∧ fl ≤ 9223372036854775807) (hf1 : fl ≠ 1) (fl' : Int) (hfl' : (1 < fl → fl' = fl - 1) ∧ (¬ 1 < fl → fl' = fl)) (h6 : kd ≠ 6) (hz : kd = 3 → 0 ≤ sz) (hsl : s.length ≤ 1152921504606) : Calls Try.prog 67 #[.agg #[.int .i64 (d.room : Int), .slice A1 l.length c1, .slice A2 s.length c2, .int .i64 ac, .int .i64 fl, .bool false], .agg #[.int .i64 kd, .string nm, .string to_, .string dt, .int .i64 sz]] W fun r w => ∃ As cs, r = .returned (.tuple #[.agg #[.int .i64 (d.room : Int), .slice A1 l.length c1, .slice As (s ++ expn (stepOf kd nm to_ dt sz)).length cs, .int .i64 (ac + 1), .int .i64 fl', .bool false], .int .i64 0]) ∧ Kd.V k145 145 w 0 (fun j => W.heap.size ≤ j) (.slice As (s ++ expn (stepOf kd nm to_ dt sz)).length cs) (s ++ expn (stepOf kd nm to_ dt sz)) ∧ Below W.heap.size W w := by
  have HX := Aside0.mk (B3.new W #[.int .i64 (d.room : Int), .slice A1 l.length c1, .slice A2 s.length c2, .int .i64 ac, .int .i64 fl, .bool false] #[.int .i64 kd, .string nm, .string to_, .string dt, .int .i64 sz] #[.int .i64 0, .slice none 0 0, .slice none 0 0, .int .i64 0, .int .i64 0, .bool false])
  have HV := Aside0.mk (fun w (h : Below W.heap.size W w) => And.intro (Kd.V_below (Kd.V_bound hV) h) (Kd.V_below (Kd.V_bound hS) h))
  have HRF := Aside0.mk (fun w (h : Below W.heap.size W w) => rrefused_calls (W := w) hok k (hF ac fl false) (Kd.V_below hV h) (Kd.V_below hS h) kd nm to_ dt sz hk hn hto (by omega))
  have HF := Aside0.mk hF
  have wa := i64_of hac
  have n1 : (fl == 1) = false := beq_false_of_ne hf1
  have wb : 1 < fl → IntKind.i64.wrap (fl - 1) = fl - 1 := fun h => i64_of (by omega)
  have HFL := Aside0.mk (And.intro hfl' wb)
  rw [he] at HRF
  have HN := Aside0.mk (And.intro hn (And.intro hto hdt))
  have HK := Aside0.mk hk
  clear hV hS hF he hn hto hdt hac hfl hf1 hfl' wb hk
  have n6 : (kd == 6) = false := beq_false_of_ne h6
  have HSL := Aside0.mk hsl
  clear hsl
  go_enter Try.func67, Try.ntmps67
  go_upto_region 1 with fail
  generalize ((W.alloc _).alloc _).alloc _ = w1 at HX ⊢
  obtain ⟨⟨c0, c1', c2', c3, c4, c5⟩, ⟨a0, a1, a2, a3, a4⟩, hf⟩ := HX.out.cells
  go_upto_region 6 with (first
    | (go_at_call 100; refine Calls.mono (HRF.out w1 HX.out.bel) ?_; rintro e w2 ⟨rfl, hb⟩; (have HX2 := Aside0.mk (HX.out.below hb)); clear hb hf c0 c1' c2' c3 c4 c5 a0 a1 a2 a3 a4; obtain ⟨⟨c0, c1', c2', c3, c4, c5⟩, ⟨a0, a1, a2, a3, a4⟩, hf⟩ := HX2.out.cells)
    | fail)
  have f3 := hf 3
  clear hf
  go_upto_region 7 with fail
  have HX3 := Aside0.mk (HX2.out.setB 3 (.int .i64 (ac + 1)) rfl)
  clear c0 c1' c2' c3 c4 c5 a0 a1 a2 a3 a4 f3 HX2
  generalize w2.setCell _ _ = w3 at HX3 ⊢
  obtain ⟨⟨c0, c1', c2', c3, c4, c5⟩, ⟨a0, a1, a2, a3, a4⟩, hf⟩ := HX3.out.cells
  have f4 := hf 4
  clear hf
  go_upto_if 30 with fail
  go_cut [] (fun wc => Aside0 (B3 W wc #[.int .i64 (d.room : Int), .slice A1 l.length c1, .slice A2 s.length c2, .int .i64 (ac + 1), .int .i64 fl', .bool false] #[.int .i64 kd, .string nm, .string to_, .string dt, .int .i64 sz] #[.int .i64 0, .slice none 0 0, .slice none 0 0, .int .i64 0, .int .i64 0, .bool false]))
  case first =>
    by_cases h1 : 1 < fl
    · have d1 : decide (1 < fl) = true := decide_eq_true h1
      have w9 := HFL.out.2 h1
      have HE := Aside0.mk (HFL.out.1.1 h1)
      go_wp2
      go_meet
      case rel => exact ⟨HX3.out.setB 4 _ (by rw [HE.out]; rfl)⟩
    · have d1 : decide (1 < fl) = false := decide_eq_false h1
      have HE := Aside0.mk (HFL.out.1.2 (by omega))
      go_wp2
      go_meet
      case rel => exact ⟨by rw [HE.out]; exact HX3.out⟩
  case rest =>
  have HXc := hcut
  clear hcut c0 c1' c2' c3 c4 c5 a0 a1 a2 a3 a4 f4 HX3 HFL HRF
  obtain ⟨⟨c0, c1', c2', c3, c4, c5⟩, ⟨a0, a1, a2, a3, a4⟩, hf⟩ := HXc.out.cells
  obtain ⟨w4c, e4c⟩ : ∃ x, x = wc := ⟨_, rfl⟩
  subst e4c
  have HSC := Aside0.mk (Kd.V_reads' (HV.out _ HXc.out.bel).2)
  go_upto_if 48 with (first
    | ((with_reducible refine gate_builtin (b := .append) (xs := #[.const (.slice none 0 0), .tmp 44]) rfl ?_); at_builtin; refine Kd.R_append_rows k145 (w0 := w4c) w4c.heap.size rfl (.const (.slice none 0 0)) (.tmp 44) 59 145 (.agg #[.int .i64 0, .string ⟨#[]⟩, .string ⟨#[]⟩, .int .u8 0, .int .i64 0]) 56 rfl Try.underlying59 info_stp rfl (by decide) (by omega) (.slice none 0 0) ([] : List Sp) s _ _ _ (fun k_ => w4c.heap.size ≤ k_) (fun _ => False) rfl rfl ?aO ?aR (fun _ _ h => h) (fun _ h => h.elim) ?aF ?aB ?aS ?aL ?_; (case aO => exact Kd.R_nil _ _ _ _ _); (case aR => exact HSC.out.2.2); (case aF => exact fun k_ hk => hk); (case aB => exact Below.refl _ _); (case aS => exact Nat.le_refl _); (case aL => have := HSL.out; simp only [List.length_nil]; omega); intro v5 w5 ho hb hg hat; (have HR5 := Aside0.mk (show Kd.R k145 145 w5 w4c.heap.size (fun k_ => w4c.heap.size ≤ k_) v5 s from ho)); (have HX5 := Aside0.mk (HXc.out.below hb)); (have HB5 := Aside0.mk hb); clear ho hb hg hat c0 c1' c2' c3 c4 c5 a0 a1 a2 a3 a4 hf; obtain ⟨⟨c0, c1', c2', c3, c4, c5⟩, ⟨a0, a1, a2, a3, a4⟩, hf⟩ := HX5.out.cells)
    | fail)
  obtain ⟨Ax5, cx5, ev5⟩ := Kd.R_slice HR5.out
  subst ev5
  go_cut [7] (fun v7 wx => Aside0 (Kd.R k145 145 wx w4c.heap.size (fun j => w4c.heap.size ≤ j) v7 (s ++ bytesSt kd nm dt) ∧ Below w4c.heap.size w4c wx))
  case first =>
    clear hf
    by_cases h2 : kd = 2
    · subst h2
      have HBS := Aside0.mk (show bytesSt 2 nm dt = expn (.laid nm dt) from if_pos rfl)
      go_wp2
      go_loopw [7, 8] (fun v i wr => ∃ k : Nat, i = .int .i64 (k : Int) ∧ Aside0 (k ≤ dt.size ∧ Kd.R k145 145 wr w4c.heap.size (fun j => w4c.heap.size ≤ j) v (s ++ (expn (.laid nm dt)).take k) ∧ Below w4c.heap.size w4c wr)) (fun _ i _ => dt.size - (intOf i).toNat)
      case atStart => exact ⟨0, rfl, ⟨Nat.zero_le _, by rw [List.take_zero, List.append_nil]; exact HR5.out, HB5.out⟩⟩
      case round =>
        obtain ⟨k, rfl, HK2⟩ := hrel
        have HXr := Aside0.mk (HXc.out.below HK2.out.2.2)
        clear c0 c1' c2' c3 c4 c5 a0 a1 a2 a3 a4
        obtain ⟨⟨c0, c1', c2', c3, c4, c5⟩, ⟨a0, a1, a2, a3, a4⟩, hf⟩ := HXr.out.cells
        clear hf
        by_cases hlt : k < dt.size
        · have hki : (k : Int) < (dt.size : Int) := by omega
          have hk0 : (0 : Int) ≤ (k : Int) := by omega
          have HT := Aside0.mk (expn_laid_at (nm := nm) hlt)
          have w9 := i64_of (show -9223372036854775808 ≤ (k : Int) + 1 ∧ (k : Int) + 1 ≤ 9223372036854775807 by have := HN.out; omega)
          obtain ⟨Al, cl, hvl⟩ := Kd.R_slice HK2.out.2.1
          have hlk : (s ++ (expn (.laid nm dt)).take k).length = s.length + k := by rw [List.length_append, List.length_take, expn_len]; show _ + min k dt.size = _; omega
          rw [hlk] at hvl
          subst hvl
          have HLK := Aside0.mk hlk
          clear hlk
          go_upto_region 21 with fail
          have hdr : Below wr.heap.size wr wr.drew := Drawn0.below ⟨1, rfl⟩
          have HXD := Aside0.mk (show wr.drew.cell? ⟨W.heap.size + 1, 1, none⟩ = some (.string nm) ∧ wr.drew.cell? ⟨W.heap.size + 1, 3, none⟩ = some (.string dt) from ⟨a1, a3⟩)
          have HX1 := Aside0.mk (HXr.out.below hdr)
          have HRD := Aside0.mk (Kd.R_below HK2.out.2.1 hdr)
          have HBD := Aside0.mk (HK2.out.2.2.trans (below_w hdr HK2.out.2.2.size))
          clear hdr c0 c1' c2' c3 c4 c5 a0 a1 a2 a3 a4
          refine wp_region_held_drew (S := fun w' => Aside0 (w'.cell? ⟨W.heap.size + 1, 1, none⟩ = some (.string nm) ∧ w'.cell? ⟨W.heap.size + 1, 3, none⟩ = some (.string dt))) (by kernel_rfl) HXD (fun hHeld => ?_)
          refine wpAnyH_take (i := 0) (oi := Oper.mk _ _ _ _ _ _) (v := ?v0) rfl (by kernel_rfl) (by kernel_rfl) (by kernel_rfl) (fun _ _ _ h => h) (Or.inl ⟨by rfl, ?hy0⟩) (by assumption) ?r0
          case hy0 => (intro w hSw; clear hSw; go_simp; (try with_reducible rfl))
          try simp only [Act.put, List.setIfInBounds_toArray, List.set_cons_zero, List.set_cons_succ]
          refine wpAnyH_take (i := 1) (oi := Oper.mk _ _ _ _ _ _) (v := ?v1) rfl (by kernel_rfl) (by kernel_rfl) (by kernel_rfl) (fun _ _ _ h => h) (Or.inl ⟨by rfl, ?hy1⟩) (by assumption) ?r1
          case hy1 => (intro w hSw; clear hSw; go_simp; (try with_reducible rfl))
          try simp only [Act.put, List.setIfInBounds_toArray, List.set_cons_zero, List.set_cons_succ]
          refine wpAnyH_take (i := 2) (oi := Oper.mk _ _ _ _ _ _) (v := ?v2) rfl (by kernel_rfl) (by kernel_rfl) (by kernel_rfl) (fun _ _ _ h => h) (Or.inl ⟨by rfl, ?hy2⟩) (by assumption) ?r2
          case hy2 => (intro w hSw; (have g0 : w.cell? ⟨W.heap.size + 1, 1, none⟩ = some (.string nm) := hSw.out.1); clear hSw; go_simp; (try with_reducible rfl))
          try simp only [Act.put, List.setIfInBounds_toArray, List.set_cons_zero, List.set_cons_succ]
          refine wpAnyH_take (i := 3) (oi := Oper.mk _ _ _ _ _ _) (v := ?v3) rfl (by kernel_rfl) (by kernel_rfl) (by kernel_rfl) (fun _ _ _ h => h) (Or.inl ⟨by rfl, ?hy3⟩) (by assumption) ?r3
          case hy3 => (intro w hSw; clear hSw; go_simp; (try with_reducible rfl))
          try simp only [Act.put, List.setIfInBounds_toArray, List.set_cons_zero, List.set_cons_succ]
          refine wpAnyH_take (i := 4) (oi := Oper.mk _ _ _ _ _ _) (v := ?v4) rfl (by kernel_rfl) (by kernel_rfl) (by kernel_rfl) (fun _ _ _ h => h) (Or.inl ⟨by rfl, ?hy4⟩) (by assumption) ?r4
          case hy4 => (intro w hSw; (have g1 : w.cell? ⟨W.heap.size + 1, 3, none⟩ = some (.string dt) := hSw.out.2); clear hSw; go_simp; (try with_reducible rfl))
          try simp only [Act.put, List.setIfInBounds_toArray, List.set_cons_zero, List.set_cons_succ]
          refine wpAnyH_take (i := 5) (oi := Oper.mk _ _ _ _ _ _) (v := ?v5) rfl (by kernel_rfl) (by kernel_rfl) (by kernel_rfl) (fun _ _ _ h => h) (Or.inl ⟨by rfl, ?hy5⟩) (by assumption) ?r5
          case hy5 => (intro w hSw; clear hSw; go_simp; (try with_reducible rfl))
          try simp only [Act.put, List.setIfInBounds_toArray, List.set_cons_zero, List.set_cons_succ]
          refine wpAnyH_take (i := 6) (oi := Oper.mk _ _ _ _ _ _) (v := ?v6) rfl (by kernel_rfl) (by kernel_rfl) (by kernel_rfl) (fun _ _ _ h => h) (Or.inl ⟨by rfl, ?hy6⟩) (by assumption) ?r6
          case hy6 => (intro w hSw; clear hSw; go_simp; (try with_reducible rfl))
          try simp only [Act.put, List.setIfInBounds_toArray, List.set_cons_zero, List.set_cons_succ]
          refine wpAnyH_take (i := 7) (oi := Oper.mk _ _ _ _ _ _) (v := ?v7) rfl (by kernel_rfl) (by kernel_rfl) (by kernel_rfl) (fun _ _ _ h => h) (Or.inl ⟨by rfl, ?hy7⟩) (by assumption) ?r7
          case hy7 => (intro w hSw; clear hSw; go_simp; (try with_reducible rfl))
          try simp only [Act.put, List.setIfInBounds_toArray, List.set_cons_zero, List.set_cons_succ]
          generalize wr.drew = w1' at HXD HX1 HRD HBD hHeld ⊢
          have HXA := Aside0.mk (HX1.out.below (below_alloc (Below.refl w1'.heap.size w1') (.cells #[.int .i64 2, .string nm, .string ⟨#[]⟩, .int .u8 ((dt[k]'hlt).toNat : Int), .int .i64 0] 145)))
          have HXS := Aside0.mk (show (w1'.alloc (.cells #[.int .i64 2, .string nm, .string ⟨#[]⟩, .int .u8 ((dt[k]'hlt).toNat : Int), .int .i64 0] 145)).cell? ⟨W.heap.size + 1, 1, none⟩ = some (.string nm) ∧ (w1'.alloc (.cells #[.int .i64 2, .string nm, .string ⟨#[]⟩, .int .u8 ((dt[k]'hlt).toNat : Int), .int .i64 0] 145)).cell? ⟨W.heap.size + 1, 3, none⟩ = some (.string dt) from ⟨HXA.out.cells.2.1.2.1, HXA.out.cells.2.1.2.2.2.1⟩)
          refine wpAnyH_ready (rs := [8]) (by kernel_rfl) (by simp) ?_
          refine AllReadyH.cons (o := Oper.mk _ _ _ _ _ _) rfl (fun K hK => ?_) AllReadyH.nil
          go_simp
          refine hK.out _ _ HXS (fun hHeld1 => ?_)
          clear hK K
          try simp only [Act.put, List.setIfInBounds_toArray, List.set_cons_zero, List.set_cons_succ]
          refine wpAnyH_ready (rs := [9]) (by kernel_rfl) (by simp) ?_
          refine AllReadyH.cons (o := Oper.mk _ _ _ _ _ _) rfl (fun K hK => ?_) AllReadyH.nil
          refine Kd.R_append_step k145 (w0 := w4c) w4c.heap.size (by rfl) (.tmp 56) (.tmp 64) 59 145 (.agg #[.int .i64 0, .string ⟨#[]⟩, .string ⟨#[]⟩, .int .u8 0, .int .i64 0]) 56 rfl Try.underlying59 info_stp rfl (by decide) (by omega) (.slice Al (s.length + k) cl) (s ++ (expn (.laid nm dt)).take k) (⟨2, nm, ⟨#[]⟩, ((dt[k]'hlt).toNat : Int), 0⟩ : Sp) [.int .i64 2, .string nm, .string ⟨#[]⟩, .int .u8 ((dt[k]'hlt).toNat : Int), .int .i64 0] (fun j => w4c.heap.size ≤ j) (fun _ => False) ?s_ ?x_ ?p_ (fun _ h => h.elim) (fun j hj => Nat.le_trans HBD.out.size hj) HRD.out HBD.out HBD.out.size ?l_ ?_
          case s_ => go_simp
          case x_ => go_simp
          case p_ => exact k145_mkM _ _ _ (⟨2, nm, ⟨#[]⟩, ((dt[k]'hlt).toNat : Int), 0⟩ : Sp)
          case l_ => rw [HLK.out]; have := HSL.out; have := HN.out; omega
          intro v5 w5' ho5 hb5 hg5 _
          have H5 := Aside0.mk (And.intro ho5 hb5)
          have HX5' := Aside0.mk (HXc.out.below hb5)
          clear ho5 hb5 hg5
          refine hK.out _ _ ⟨HX5'.out.cells.2.1.2.1, HX5'.out.cells.2.1.2.2.2.1⟩ (fun hHeld2 => ?_)
          clear hK K
          try simp only [Act.put, List.setIfInBounds_toArray, List.set_cons_zero, List.set_cons_succ]
          refine wpAnyH_ready (rs := [10]) (by kernel_rfl) (by simp) ?_
          refine AllReadyH.cons (o := Oper.mk _ _ _ _ _ _) rfl (fun K hK => ?_) AllReadyH.nil
          go_simp
          refine hK.out _ _ ⟨HX5'.out.cells.2.1.2.1, HX5'.out.cells.2.1.2.2.2.1⟩ (fun hHeld3 => ?_)
          clear hK K
          try simp only [Act.put, List.setIfInBounds_toArray, List.set_cons_zero, List.set_cons_succ]
          refine wpAnyH_done (by kernel_rfl) ?_ _
          go_wp2
          go_roundw
          case rel =>
            refine ⟨k + 1, by push_cast; rfl, ⟨by omega, ?_, H5.out.2⟩⟩
            rw [HT.out, ← List.append_assoc]
            exact H5.out.1
          case measure => simp [intOf]; omega
        · have hk9 : k = dt.size := by have := HK2.out.1; omega
          subst hk9
          have h9 := HK2.out.2.1
          rw [List.take_of_length_le (by rw [expn_len]; exact Nat.le_refl _), ← HBS.out] at h9
          have H9 := Aside0.mk h9
          clear h9
          go_wp2
          go_meet
          case rel => exact ⟨H9.out, HK2.out.2.2⟩
    · have HBS := Aside0.mk (show s ++ bytesSt kd nm dt = s by unfold bytesSt; rw [if_neg h2, List.append_nil])
      have n2 : (kd == 2) = false := beq_false_of_ne h2
      go_wp2
      go_meet
      case rel => exact ⟨by rw [HBS.out]; exact HR5.out, HB5.out⟩
  case rest =>
  have HW := hcut
  have HX7 := Aside0.mk (HXc.out.below HW.out.2)
  have HZ := Aside0.mk hz
  clear hcut hf hz HR5 HB5 HX5 c0 c1' c2' c3 c4 c5 a0 a1 a2 a3 a4
  obtain ⟨⟨c0, c1', c2', c3, c4, c5⟩, ⟨a0, a1, a2, a3, a4⟩, hf⟩ := HX7.out.cells
  clear hf
  have hcs : kd = 1 ∨ kd = 2 ∨ kd = 3 ∨ kd = 4 ∨ kd = 5 := by have := HK.out; omega
  clear n6 h6 HK HSC HF
  rcases hcs with rfl | rfl | rfl | rfl | rfl
  · have hb0 : s ++ bytesSt 1 nm dt = s := by unfold bytesSt; rw [if_neg (by decide), List.append_nil]
    rw [hb0] at HW
    clear hb0
    obtain ⟨Av, cv, ev⟩ := Kd.R_slice HW.out.1
    subst ev
    have HES := Aside0.mk (show expn (stepOf 1 nm to_ dt sz) = [(⟨1, nm, ⟨#[]⟩, 0, 0⟩ : Sp)] by rfl)
    go_upto_region 30 with (first
      | ((with_reducible refine gate_builtin (b := .append) (xs := #[.tmp 69, .tmp 73]) rfl ?_); at_builtin; refine Kd.R_append k145 (w0 := w4c) w4c.heap.size rfl (.tmp 69) (.tmp 73) 59 145 (.agg #[.int .i64 0, .string ⟨#[]⟩, .string ⟨#[]⟩, .int .u8 0, .int .i64 0]) 56 rfl Try.underlying59 info_stp rfl (by decide) (by omega) (.slice Av s.length cv) s (⟨1, nm, ⟨#[]⟩, 0, 0⟩ : Sp) [.int .i64 1, .string nm, .string ⟨#[]⟩, .int .u8 0, .int .i64 0] (fun k_ => w4c.heap.size ≤ k_) (fun _ => False) rfl rfl ?aP (fun _ hk => hk.elim) ?aF ?aO ?aB ?aS ?aL ?_; (case aP => exact k145_mkM _ _ _ (⟨1, nm, ⟨#[]⟩, 0, 0⟩ : Sp)); (case aF => exact fun k_ hk => Nat.le_trans HW.out.2.size hk); (case aO => exact HW.out.1); (case aB => exact HW.out.2); (case aS => exact HW.out.2.size); (case aL => have := HSL.out; omega); intro v8 w8 ho hb hg hat; (have HR8 := Aside0.mk ho); (have HX8 := Aside0.mk (HXc.out.below hb)); clear ho hb hg hat; (have a0' : w8.cell? ⟨W.heap.size + 1, 0, none⟩ = some (.int .i64 1) := HX8.out.cells.2.1.1))
      | fail)
    obtain ⟨A8, c8, ev8⟩ := Kd.R_slice HR8.out
    obtain ⟨n8, hn8⟩ : ∃ n, n = (s ++ [(⟨1, nm, ⟨#[]⟩, 0, 0⟩ : Sp)]).length := ⟨_, rfl⟩
    rw [← hn8] at ev8
    subst ev8
    have HN8 := Aside0.mk hn8
    clear hn8
    clear c0 c1' c2' c3 c4 c5 a0 a1 a2 a3 a4 a0' HX7
    obtain ⟨⟨c0, c1', c2', c3, c4, c5⟩, ⟨a0, a1, a2, a3, a4⟩, hf⟩ := HX8.out.cells
    have f2 := hf 2
    clear hf
    go_upto_region 31 with fail
    have HX9 := Aside0.mk (HX8.out.setB 2 (.slice A8 n8 c8) rfl)
    have HR9 := Aside0.mk (Kd.V_far (p := ⟨W.heap.size, 2, none⟩) (Kd.R_V (base' := 0) HR8.out) (fun j hj => (show j ≠ W.heap.size by have := HXc.out.lt; omega)) (.slice A8 n8 c8))
    clear c0 c1' c2' c3 c4 c5 a0 a1 a2 a3 a4 f2 HX8 HR8
    generalize w8.setCell _ _ = w9 at HX9 HR9 ⊢
    obtain ⟨⟨c0, c1', c2', c3, c4, c5⟩, ⟨a0, a1, a2, a3, a4⟩, hf⟩ := HX9.out.cells
    clear hf
    go_wp2_with (first
      | ((with_reducible refine wpList_store_row rfl 61 (.tmp 4) (.tmp 108) rfl (W.heap.size + 2) #[.int .i64 (d.room : Int), .slice A1 l.length c1, .slice A8 n8 c8, .int .i64 (ac + 1), .int .i64 fl', .bool false] ?d1 ?d2 61 #[.int .i64 0, .slice none 0 0, .slice none 0 0, .int .i64 0, .int .i64 0, .bool false] ?c1 ?c2 ?c3 ?c4 ?_); (case d1 => rfl); (case d2 => rfl); (case c1 => exact HX9.out.z); (case c2 => exact info_rd); (case c3 => rfl); (case c4 => kernel_rfl))
      | fail)
    refine bodyPost_ret ((HX9.out.store _).ret rfl _ rfl rfl) rfl ?_
    have hn8 := HN8.out
    subst hn8
    refine ⟨A8, c8, ?_, ?_, (HX9.out.store _).bel⟩
    · rw [HES.out]
      first | rfl | (simp only [List.length_append]; rfl)
    · have h9 := Kd.V_mono (ok' := fun j => W.heap.size ≤ j) (Kd.V_step (w1 := w9.setRow (W.heap.size + 2) #[.int .i64 (d.room : Int), .slice A1 l.length c1, .slice A8 (s ++ [(⟨1, nm, ⟨#[]⟩, 0, 0⟩ : Sp)]).length c8, .int .i64 (ac + 1), .int .i64 fl', .bool false]) HR9.out (fun j hj _ => setRow_other w9 (W.heap.size + 2) j _ (by have := HXc.out.lt; omega))) (fun j hj => Nat.le_trans HXc.out.bel.size hj)
      rw [HES.out]
      first | exact h9 | (simp only [List.length_append] at h9 ⊢; exact h9)
  · obtain ⟨A8, c8, ev8⟩ := Kd.R_slice HW.out.1
    obtain ⟨n8, hn8⟩ : ∃ n, n = (s ++ bytesSt 2 nm dt).length := ⟨_, rfl⟩
    rw [← hn8] at ev8
    subst ev8
    have HN8 := Aside0.mk hn8
    clear hn8
    have HE8 := Aside0.mk (show s ++ bytesSt 2 nm dt = s ++ expn (stepOf 2 nm to_ dt sz) by unfold bytesSt stepOf; rw [if_pos rfl, if_neg (by decide), if_pos rfl])
    have hE := HW.out.1
    go_upto_region 30 with fail
    have HX8 := HX7
    have HR8 := HW
    clear hE
    generalize hw8 : wc = w8 at HX8 HR8 c0 c1' c2' c3 c4 c5 a0 a1 a2 a3 a4 ⊢
    have f2 := HX8.out.cells.2.2 2
    go_upto_region 31 with fail
    replace HR8 := Aside0.mk HR8.out.1
    have HX9 := Aside0.mk (HX8.out.setB 2 (.slice A8 n8 c8) rfl)
    have HR9 := Aside0.mk (Kd.V_far (p := ⟨W.heap.size, 2, none⟩) (Kd.R_V (base' := 0) HR8.out) (fun j hj => (show j ≠ W.heap.size by have := HXc.out.lt; omega)) (.slice A8 n8 c8))
    clear c0 c1' c2' c3 c4 c5 a0 a1 a2 a3 a4 f2 HX8 HR8
    generalize w8.setCell _ _ = w9 at HX9 HR9 ⊢
    obtain ⟨⟨c0, c1', c2', c3, c4, c5⟩, ⟨a0, a1, a2, a3, a4⟩, hf⟩ := HX9.out.cells
    clear hf
    go_wp2_with (first
      | ((with_reducible refine wpList_store_row rfl 61 (.tmp 4) (.tmp 108) rfl (W.heap.size + 2) #[.int .i64 (d.room : Int), .slice A1 l.length c1, .slice A8 n8 c8, .int .i64 (ac + 1), .int .i64 fl', .bool false] ?d1 ?d2 61 #[.int .i64 0, .slice none 0 0, .slice none 0 0, .int .i64 0, .int .i64 0, .bool false] ?c1 ?c2 ?c3 ?c4 ?_); (case d1 => rfl); (case d2 => rfl); (case c1 => exact HX9.out.z); (case c2 => exact info_rd); (case c3 => rfl); (case c4 => kernel_rfl))
      | fail)
    refine bodyPost_ret ((HX9.out.store _).ret rfl _ rfl rfl) rfl ?_
    have HEL := HE8.out
    have hn8 := HN8.out
    subst hn8
    refine ⟨A8, c8, ?_, ?_, (HX9.out.store _).bel⟩
    · rw [← HEL]; rfl
    · rw [← HEL]
      exact Kd.V_mono (Kd.V_step HR9.out (fun j hj _ => setRow_other _ _ j _ (by have := HXc.out.lt; omega))) (fun j hj => Nat.le_trans HXc.out.bel.size hj)
  · have hb0 : s ++ bytesSt 3 nm dt = s := by unfold bytesSt; rw [if_neg (by decide), List.append_nil]
    rw [hb0] at HW
    clear hb0
    obtain ⟨Av, cv, ev⟩ := Kd.R_slice HW.out.1
    subst ev
    have HES := Aside0.mk (show expn (stepOf 3 nm to_ dt sz) = [(⟨3, nm, ⟨#[]⟩, 0, sz⟩ : Sp)] by unfold stepOf expn; rw [if_neg (by decide), if_neg (by decide), if_pos rfl]; show [(⟨3, nm, ⟨#[]⟩, 0, ((sz.toNat : Nat) : Int)⟩ : Sp)] = _; rw [Int.toNat_of_nonneg (HZ.out rfl)])
    go_upto_region 30 with (first
      | ((with_reducible refine gate_builtin (b := .append) (xs := #[.tmp 78, .tmp 84]) rfl ?_); at_builtin; refine Kd.R_append k145 (w0 := w4c) w4c.heap.size rfl (.tmp 78) (.tmp 84) 59 145 (.agg #[.int .i64 0, .string ⟨#[]⟩, .string ⟨#[]⟩, .int .u8 0, .int .i64 0]) 56 rfl Try.underlying59 info_stp rfl (by decide) (by omega) (.slice Av s.length cv) s (⟨3, nm, ⟨#[]⟩, 0, sz⟩ : Sp) [.int .i64 3, .string nm, .string ⟨#[]⟩, .int .u8 0, .int .i64 sz] (fun k_ => w4c.heap.size ≤ k_) (fun _ => False) rfl rfl ?aP (fun _ hk => hk.elim) ?aF ?aO ?aB ?aS ?aL ?_; (case aP => exact k145_mkM _ _ _ (⟨3, nm, ⟨#[]⟩, 0, sz⟩ : Sp)); (case aF => exact fun k_ hk => Nat.le_trans HW.out.2.size hk); (case aO => exact HW.out.1); (case aB => exact HW.out.2); (case aS => exact HW.out.2.size); (case aL => have := HSL.out; omega); intro v8 w8 ho hb hg hat; (have HR8 := Aside0.mk ho); (have HX8 := Aside0.mk (HXc.out.below hb)); clear ho hb hg hat; (have a0' : w8.cell? ⟨W.heap.size + 1, 0, none⟩ = some (.int .i64 3) := HX8.out.cells.2.1.1))
      | fail)
    obtain ⟨A8, c8, ev8⟩ := Kd.R_slice HR8.out
    obtain ⟨n8, hn8⟩ : ∃ n, n = (s ++ [(⟨3, nm, ⟨#[]⟩, 0, sz⟩ : Sp)]).length := ⟨_, rfl⟩
    rw [← hn8] at ev8
    subst ev8
    have HN8 := Aside0.mk hn8
    clear hn8
    clear c0 c1' c2' c3 c4 c5 a0 a1 a2 a3 a4 a0' HX7
    obtain ⟨⟨c0, c1', c2', c3, c4, c5⟩, ⟨a0, a1, a2, a3, a4⟩, hf⟩ := HX8.out.cells
    have f2 := hf 2
    clear hf
    go_upto_region 31 with fail
    have HX9 := Aside0.mk (HX8.out.setB 2 (.slice A8 n8 c8) rfl)
    have HR9 := Aside0.mk (Kd.V_far (p := ⟨W.heap.size, 2, none⟩) (Kd.R_V (base' := 0) HR8.out) (fun j hj => (show j ≠ W.heap.size by have := HXc.out.lt; omega)) (.slice A8 n8 c8))
    clear c0 c1' c2' c3 c4 c5 a0 a1 a2 a3 a4 f2 HX8 HR8
    generalize w8.setCell _ _ = w9 at HX9 HR9 ⊢
    obtain ⟨⟨c0, c1', c2', c3, c4, c5⟩, ⟨a0, a1, a2, a3, a4⟩, hf⟩ := HX9.out.cells
    clear hf
    go_wp2_with (first
      | ((with_reducible refine wpList_store_row rfl 61 (.tmp 4) (.tmp 108) rfl (W.heap.size + 2) #[.int .i64 (d.room : Int), .slice A1 l.length c1, .slice A8 n8 c8, .int .i64 (ac + 1), .int .i64 fl', .bool false] ?d1 ?d2 61 #[.int .i64 0, .slice none 0 0, .slice none 0 0, .int .i64 0, .int .i64 0, .bool false] ?c1 ?c2 ?c3 ?c4 ?_); (case d1 => rfl); (case d2 => rfl); (case c1 => exact HX9.out.z); (case c2 => exact info_rd); (case c3 => rfl); (case c4 => kernel_rfl))
      | fail)
    refine bodyPost_ret ((HX9.out.store _).ret rfl _ rfl rfl) rfl ?_
    have hn8 := HN8.out
    subst hn8
    refine ⟨A8, c8, ?_, ?_, (HX9.out.store _).bel⟩
    · rw [HES.out]
      first | rfl | (simp only [List.length_append]; rfl)
    · have h9 := Kd.V_mono (ok' := fun j => W.heap.size ≤ j) (Kd.V_step (w1 := w9.setRow (W.heap.size + 2) #[.int .i64 (d.room : Int), .slice A1 l.length c1, .slice A8 (s ++ [(⟨3, nm, ⟨#[]⟩, 0, sz⟩ : Sp)]).length c8, .int .i64 (ac + 1), .int .i64 fl', .bool false]) HR9.out (fun j hj _ => setRow_other w9 (W.heap.size + 2) j _ (by have := HXc.out.lt; omega))) (fun j hj => Nat.le_trans HXc.out.bel.size hj)
      rw [HES.out]
      first | exact h9 | (simp only [List.length_append] at h9 ⊢; exact h9)
  · have hb0 : s ++ bytesSt 4 nm dt = s := by unfold bytesSt; rw [if_neg (by decide), List.append_nil]
    rw [hb0] at HW
    clear hb0
    obtain ⟨Av, cv, ev⟩ := Kd.R_slice HW.out.1
    subst ev
    have HES := Aside0.mk (show expn (stepOf 4 nm to_ dt sz) = [(⟨4, nm, to_, 0, 0⟩ : Sp)] by rfl)
    go_upto_region 30 with (first
      | ((with_reducible refine gate_builtin (b := .append) (xs := #[.tmp 89, .tmp 95]) rfl ?_); at_builtin; refine Kd.R_append k145 (w0 := w4c) w4c.heap.size rfl (.tmp 89) (.tmp 95) 59 145 (.agg #[.int .i64 0, .string ⟨#[]⟩, .string ⟨#[]⟩, .int .u8 0, .int .i64 0]) 56 rfl Try.underlying59 info_stp rfl (by decide) (by omega) (.slice Av s.length cv) s (⟨4, nm, to_, 0, 0⟩ : Sp) [.int .i64 4, .string nm, .string to_, .int .u8 0, .int .i64 0] (fun k_ => w4c.heap.size ≤ k_) (fun _ => False) rfl rfl ?aP (fun _ hk => hk.elim) ?aF ?aO ?aB ?aS ?aL ?_; (case aP => exact k145_mkM _ _ _ (⟨4, nm, to_, 0, 0⟩ : Sp)); (case aF => exact fun k_ hk => Nat.le_trans HW.out.2.size hk); (case aO => exact HW.out.1); (case aB => exact HW.out.2); (case aS => exact HW.out.2.size); (case aL => have := HSL.out; omega); intro v8 w8 ho hb hg hat; (have HR8 := Aside0.mk ho); (have HX8 := Aside0.mk (HXc.out.below hb)); clear ho hb hg hat; (have a0' : w8.cell? ⟨W.heap.size + 1, 0, none⟩ = some (.int .i64 4) := HX8.out.cells.2.1.1))
      | fail)
    obtain ⟨A8, c8, ev8⟩ := Kd.R_slice HR8.out
    obtain ⟨n8, hn8⟩ : ∃ n, n = (s ++ [(⟨4, nm, to_, 0, 0⟩ : Sp)]).length := ⟨_, rfl⟩
    rw [← hn8] at ev8
    subst ev8
    have HN8 := Aside0.mk hn8
    clear hn8
    clear c0 c1' c2' c3 c4 c5 a0 a1 a2 a3 a4 a0' HX7
    obtain ⟨⟨c0, c1', c2', c3, c4, c5⟩, ⟨a0, a1, a2, a3, a4⟩, hf⟩ := HX8.out.cells
    have f2 := hf 2
    clear hf
    go_upto_region 31 with fail
    have HX9 := Aside0.mk (HX8.out.setB 2 (.slice A8 n8 c8) rfl)
    have HR9 := Aside0.mk (Kd.V_far (p := ⟨W.heap.size, 2, none⟩) (Kd.R_V (base' := 0) HR8.out) (fun j hj => (show j ≠ W.heap.size by have := HXc.out.lt; omega)) (.slice A8 n8 c8))
    clear c0 c1' c2' c3 c4 c5 a0 a1 a2 a3 a4 f2 HX8 HR8
    generalize w8.setCell _ _ = w9 at HX9 HR9 ⊢
    obtain ⟨⟨c0, c1', c2', c3, c4, c5⟩, ⟨a0, a1, a2, a3, a4⟩, hf⟩ := HX9.out.cells
    clear hf
    go_wp2_with (first
      | ((with_reducible refine wpList_store_row rfl 61 (.tmp 4) (.tmp 108) rfl (W.heap.size + 2) #[.int .i64 (d.room : Int), .slice A1 l.length c1, .slice A8 n8 c8, .int .i64 (ac + 1), .int .i64 fl', .bool false] ?d1 ?d2 61 #[.int .i64 0, .slice none 0 0, .slice none 0 0, .int .i64 0, .int .i64 0, .bool false] ?c1 ?c2 ?c3 ?c4 ?_); (case d1 => rfl); (case d2 => rfl); (case c1 => exact HX9.out.z); (case c2 => exact info_rd); (case c3 => rfl); (case c4 => kernel_rfl))
      | fail)
    refine bodyPost_ret ((HX9.out.store _).ret rfl _ rfl rfl) rfl ?_
    have hn8 := HN8.out
    subst hn8
    refine ⟨A8, c8, ?_, ?_, (HX9.out.store _).bel⟩
    · rw [HES.out]
      first | rfl | (simp only [List.length_append]; rfl)
    · have h9 := Kd.V_mono (ok' := fun j => W.heap.size ≤ j) (Kd.V_step (w1 := w9.setRow (W.heap.size + 2) #[.int .i64 (d.room : Int), .slice A1 l.length c1, .slice A8 (s ++ [(⟨4, nm, to_, 0, 0⟩ : Sp)]).length c8, .int .i64 (ac + 1), .int .i64 fl', .bool false]) HR9.out (fun j hj _ => setRow_other w9 (W.heap.size + 2) j _ (by have := HXc.out.lt; omega))) (fun j hj => Nat.le_trans HXc.out.bel.size hj)
      rw [HES.out]
      first | exact h9 | (simp only [List.length_append] at h9 ⊢; exact h9)
  · have hb0 : s ++ bytesSt 5 nm dt = s := by unfold bytesSt; rw [if_neg (by decide), List.append_nil]
    rw [hb0] at HW
    clear hb0
    obtain ⟨Av, cv, ev⟩ := Kd.R_slice HW.out.1
    subst ev
    have HES := Aside0.mk (show expn (stepOf 5 nm to_ dt sz) = [(⟨5, nm, ⟨#[]⟩, 0, 0⟩ : Sp)] by rfl)
    go_upto_region 30 with (first
      | ((with_reducible refine gate_builtin (b := .append) (xs := #[.tmp 100, .tmp 104]) rfl ?_); at_builtin; refine Kd.R_append k145 (w0 := w4c) w4c.heap.size rfl (.tmp 100) (.tmp 104) 59 145 (.agg #[.int .i64 0, .string ⟨#[]⟩, .string ⟨#[]⟩, .int .u8 0, .int .i64 0]) 56 rfl Try.underlying59 info_stp rfl (by decide) (by omega) (.slice Av s.length cv) s (⟨5, nm, ⟨#[]⟩, 0, 0⟩ : Sp) [.int .i64 5, .string nm, .string ⟨#[]⟩, .int .u8 0, .int .i64 0] (fun k_ => w4c.heap.size ≤ k_) (fun _ => False) rfl rfl ?aP (fun _ hk => hk.elim) ?aF ?aO ?aB ?aS ?aL ?_; (case aP => exact k145_mkM _ _ _ (⟨5, nm, ⟨#[]⟩, 0, 0⟩ : Sp)); (case aF => exact fun k_ hk => Nat.le_trans HW.out.2.size hk); (case aO => exact HW.out.1); (case aB => exact HW.out.2); (case aS => exact HW.out.2.size); (case aL => have := HSL.out; omega); intro v8 w8 ho hb hg hat; (have HR8 := Aside0.mk ho); (have HX8 := Aside0.mk (HXc.out.below hb)); clear ho hb hg hat; (have a0' : w8.cell? ⟨W.heap.size + 1, 0, none⟩ = some (.int .i64 5) := HX8.out.cells.2.1.1))
      | fail)
    obtain ⟨A8, c8, ev8⟩ := Kd.R_slice HR8.out
    obtain ⟨n8, hn8⟩ : ∃ n, n = (s ++ [(⟨5, nm, ⟨#[]⟩, 0, 0⟩ : Sp)]).length := ⟨_, rfl⟩
    rw [← hn8] at ev8
    subst ev8
    have HN8 := Aside0.mk hn8
    clear hn8
    clear c0 c1' c2' c3 c4 c5 a0 a1 a2 a3 a4 a0' HX7
    obtain ⟨⟨c0, c1', c2', c3, c4, c5⟩, ⟨a0, a1, a2, a3, a4⟩, hf⟩ := HX8.out.cells
    have f2 := hf 2
    clear hf
    go_upto_region 31 with fail
    have HX9 := Aside0.mk (HX8.out.setB 2 (.slice A8 n8 c8) rfl)
    have HR9 := Aside0.mk (Kd.V_far (p := ⟨W.heap.size, 2, none⟩) (Kd.R_V (base' := 0) HR8.out) (fun j hj => (show j ≠ W.heap.size by have := HXc.out.lt; omega)) (.slice A8 n8 c8))
    clear c0 c1' c2' c3 c4 c5 a0 a1 a2 a3 a4 f2 HX8 HR8
    generalize w8.setCell _ _ = w9 at HX9 HR9 ⊢
    obtain ⟨⟨c0, c1', c2', c3, c4, c5⟩, ⟨a0, a1, a2, a3, a4⟩, hf⟩ := HX9.out.cells
    clear hf
    go_wp2_with (first
      | ((with_reducible refine wpList_store_row rfl 61 (.tmp 4) (.tmp 108) rfl (W.heap.size + 2) #[.int .i64 (d.room : Int), .slice A1 l.length c1, .slice A8 n8 c8, .int .i64 (ac + 1), .int .i64 fl', .bool false] ?d1 ?d2 61 #[.int .i64 0, .slice none 0 0, .slice none 0 0, .int .i64 0, .int .i64 0, .bool false] ?c1 ?c2 ?c3 ?c4 ?_); (case d1 => rfl); (case d2 => rfl); (case c1 => exact HX9.out.z); (case c2 => exact info_rd); (case c3 => rfl); (case c4 => kernel_rfl))
      | fail)
    refine bodyPost_ret ((HX9.out.store _).ret rfl _ rfl rfl) rfl ?_
    have hn8 := HN8.out
    subst hn8
    refine ⟨A8, c8, ?_, ?_, (HX9.out.store _).bel⟩
    · rw [HES.out]
      first | rfl | (simp only [List.length_append]; rfl)
    · have h9 := Kd.V_mono (ok' := fun j => W.heap.size ≤ j) (Kd.V_step (w1 := w9.setRow (W.heap.size + 2) #[.int .i64 (d.room : Int), .slice A1 l.length c1, .slice A8 (s ++ [(⟨5, nm, ⟨#[]⟩, 0, 0⟩ : Sp)]).length c8, .int .i64 (ac + 1), .int .i64 fl', .bool false]) HR9.out (fun j hj _ => setRow_other w9 (W.heap.size + 2) j _ (by have := HXc.out.lt; omega))) (fun j hj => Nat.le_trans HXc.out.bel.size hj)
      rw [HES.out]
      first | exact h9 | (simp only [List.length_append] at h9 ⊢; exact h9)
end
end Gd

namespace Gd
open Go.Proofs.Ytidijiijciokpaa.Blocks Frm Go.Proofs.Ytidijiijciokpaa.U
set_option maxRecDepth 100000
section
variable {W : World} {A1 A2 : Option Addr} {c1 c2 : Nat} {d : Ab} {P : Nat → Prop}
theorem files_g (h : d.Ok) (hb : pend d.steps ≤ 1152921504606846976) (r a fl : Int) (o : Bool) : hawserref12_Disk_Files.f (pend d.steps + 67108867) r d.doc.l d.doc.s a fl o = some (d.seen.map sp) := by
  unfold hawserref12_Disk_Files.f hawserref12_Disk_Left.f
  have := left_l0 h hb ((d.doc.s.length : Nat) : Int) r d.doc.l a fl o (pend d.steps + 67108867) 0 (Nat.zero_le _) (Nat.zero_le _) (by omega)
  rw [remn_zero] at this
  have h2 : hawserref12_Disk_Left.l0 (pend d.steps + 67108867) ((d.doc.s.length : Nat) : Int) d.doc.l 0 r d.doc.l d.doc.s a fl o = some ((d.left ((d.doc.s.length : Nat) : Int)).map sp) := this
  rw [h2, Option.bind_some]
  show some ((d.left ((expns d.steps).length : Int)).map sp) = _
  rw [expns_len, left_all h]
theorem doc_off (hd : d.down = false) : d.doc.val A1 c1 A2 c2 = .agg #[.int .i64 (d.room : Int), .slice A1 d.doc.l.length c1, .slice A2 d.doc.s.length c2, .int .i64 d.doc.acts, .int .i64 d.doc.fails, .bool false] := by
  unfold Rd.val
  rw [show d.doc.off = false from hd]
  rfl
theorem refuse_cut {nm to_ dt : ByteArray} {sz : Int} (h : d.refuse 3 nm to_ dt sz = 0) : 0 ≤ sz := by
  unfold Ab.refuse at h
  rw [if_neg (by decide)] at h
  split at h
  · cases h
  · rw [if_neg (by decide)] at h
    split at h
    · cases h
    · rw [if_neg (by simp)] at h
      split at h
      · cases h
      · rename_i q
        exact Int.not_lt.1 fun q2 => q ⟨rfl, .inl q2⟩
theorem rdo_calls (hok : d.Ok) (hb : pend d.steps ≤ 1152921504606) (hac : d.acts ≤ 4611686018427387904) (hV : DV W P d.doc A1 c1 A2 c2) (kd : Int) (nm to_ dt : ByteArray) (sz : Int) (hk : 1 ≤ kd ∧ kd ≤ 6) (hn : nm.size ≤ 1099511627776) (hto : to_.size ≤ 549755813888) (hdt : dt.size ≤ 549755813888) :
    Calls Try.prog 67 #[d.doc.val A1 c1 A2 c2, .agg #[.int .i64 kd, .string nm, .string to_, .string dt, .int .i64 sz]] W fun r w => ∃ v, r = .returned (.tuple #[v, .int .i64 (d.doAct kd nm to_ dt sz).2]) ∧ RPost W P (d.doAct kd nm to_ dt sz).1.doc v w := by
  rw [doAct_eq hok nm to_ dt sz hk]
  by_cases hd : d.down = true
  · rw [if_pos hd]
    have e2 : d.doc.val A1 c1 A2 c2 = .agg #[.int .i64 (d.room : Int), .slice A1 d.doc.l.length c1, .slice A2 d.doc.s.length c2, .int .i64 d.doc.acts, .int .i64 d.doc.fails, .bool true] := by
      unfold Rd.val
      rw [show d.doc.off = true from hd]
      rfl
    have h := rdo_off (W := W) (ac := d.doc.acts) (fl := d.doc.fails) (l := d.doc.l) (s := d.doc.s) (A1 := A1) (A2 := A2) (c1 := c1) (c2 := c2) d kd nm to_ dt sz
    rw [e2]
    exact h.mono fun e w ⟨q1, q2⟩ => ⟨_, q1, A1, c1, A2, c2, e2.symm, (hV.below q2).mono fun j hj => .inl hj, q2⟩
  rw [if_neg hd]
  have hd : d.down = false := by simpa using hd
  have hF := fun (a f : Int) (o : Bool) => files_g hok (by omega) (d.room : Int) a f o
  have e2 := doc_off (A1 := A1) (A2 := A2) (c1 := c1) (c2 := c2) hd
  by_cases he : d.refuse kd nm to_ dt sz ≠ 0
  · rw [if_pos he, e2]
    exact (rdo_ref hok _ hF hV.f hV.s kd nm to_ dt sz hk hn hto hdt _ rfl he).mono fun e w ⟨q1, q2⟩ => ⟨_, q1, A1, c1, A2, c2, e2.symm, (hV.below q2).mono fun j hj => .inl hj, q2⟩
  rw [if_neg he]
  have he : d.refuse kd nm to_ dt sz = 0 := Decidable.not_not.1 he
  have hfl := hok.fails
  have hacb : -9223372036854775808 ≤ d.doc.acts + 1 ∧ d.doc.acts + 1 ≤ 9223372036854775807 := by
    show -9223372036854775808 ≤ (d.acts : Int) + 1 ∧ (d.acts : Int) + 1 ≤ 9223372036854775807
    omega
  by_cases h1 : d.fails = 1
  · have ha : d.act = ({ d with acts := d.acts + 1, fails := 0 }, 124) := by simp [Ab.act, h1]
    have hr : (if kd = 6 then (if d.act.2 ≠ 0 then d.act else ({ d.act.1 with lasts := d.seen, steps := [] }, 0)) else d.step (stepOf kd nm to_ dt sz)) = ({ d with acts := d.acts + 1, fails := 0 }, 124) := by
      unfold Ab.step
      rw [ha]
      simp
    have e3 : ({ d with acts := d.acts + 1, fails := 0 } : Ab).doc.val A1 c1 A2 c2 = .agg #[.int .i64 (d.room : Int), .slice A1 d.doc.l.length c1, .slice A2 d.doc.s.length c2, .int .i64 (d.doc.acts + 1), .int .i64 0, .bool false] := by
      rw [doc_off (d := { d with acts := d.acts + 1, fails := 0 }) hd]
      rfl
    rw [hr, e2]
    exact (rdo_fail hok _ hF hV.f hV.s kd nm to_ dt sz hk hn hto hdt he hacb h1).mono fun e w ⟨q1, q2⟩ => ⟨_, q1, A1, c1, A2, c2, e3.symm, (show DV w P ({ d with acts := d.acts + 1, fails := 0 } : Ab).doc A1 c1 A2 c2 from ⟨(hV.below q2).f, (hV.below q2).s⟩).mono fun j hj => .inl hj, q2⟩
  obtain ⟨fl', hfe⟩ : ∃ fl' : Int, fl' = (if d.fails = 0 then 0 else d.fails - 1) := ⟨_, rfl⟩
  have hfl' : (1 < d.doc.fails → fl' = d.doc.fails - 1) ∧ (¬ 1 < d.doc.fails → fl' = d.doc.fails) := by
    show (1 < d.fails → fl' = d.fails - 1) ∧ (¬ 1 < d.fails → fl' = d.fails)
    rw [hfe]
    constructor
    · intro h; rw [if_neg (by omega)]
    · intro h; rw [if_pos (by omega)]; omega
  have ha : d.act = ({ d with acts := d.acts + 1, fails := fl' }, 0) := by
    unfold Ab.act
    rw [hfe]
    by_cases h0 : d.fails = 0
    · rw [if_pos h0, if_pos h0, ← h0]
    · rw [if_neg h0, if_neg h1, if_neg h0]
  by_cases h6 : kd = 6
  · rw [if_pos h6, ha, if_neg (by simp), e2]
    refine (rdo_sync hok _ hF hV.f hV.s kd nm to_ dt sz hk hn hto hdt he hacb hfl h1 fl' hfl' h6).mono fun e w ⟨Ax, cx, q1, q2, q3⟩ => ⟨_, q1, Ax, cx, none, 0, ?_, ⟨q2, Kd.V_nil _ _ _ _ _⟩, q3⟩
    unfold Rd.val
    show _ = Value.agg #[.int .i64 (d.room : Int), .slice Ax (d.seen.map sp).length cx, .slice none 0 0, .int .i64 ((d.acts + 1 : Nat) : Int), .int .i64 fl', .bool d.down]
    rw [List.length_map, hd]
    rfl
  · rw [if_neg h6, e2]
    have hs2 : d.act.2 = 0 := by rw [ha]
    have hst : expns (d.step (stepOf kd nm to_ dt sz)).1.steps = expns d.steps ++ expn (stepOf kd nm to_ dt sz) := step_expns d _ hs2
    have hsr : (d.step (stepOf kd nm to_ dt sz)).2 = 0 := by
      unfold Ab.step
      rw [if_pos hs2]
    have hk2 := step_keeps d (stepOf kd nm to_ dt sz)
    have hak : (d.step (stepOf kd nm to_ dt sz)).1.acts = d.acts + 1 ∧ (d.step (stepOf kd nm to_ dt sz)).1.fails = fl' := by
      unfold Ab.step
      rw [if_pos hs2, ha]
      exact ⟨rfl, rfl⟩
    refine (rdo_rest hok _ hF hV.f hV.s kd nm to_ dt sz hk hn hto hdt he hacb hfl h1 fl' hfl' h6 (fun e => refuse_cut (e ▸ he)) (by show (expns d.steps).length ≤ _; rw [expns_len]; exact hb)).mono fun e w ⟨As, cs, q1, q2, q3⟩ => ⟨_, by rw [hsr]; exact q1, A1, c1, As, cs, ?_, ⟨?_, ?_⟩, q3⟩
    · unfold Rd.val
      show _ = Value.agg #[.int .i64 ((d.step (stepOf kd nm to_ dt sz)).1.room : Int), .slice A1 ((d.step (stepOf kd nm to_ dt sz)).1.lasts.map sp).length c1, .slice As (expns (d.step (stepOf kd nm to_ dt sz)).1.steps).length cs, .int .i64 ((d.step (stepOf kd nm to_ dt sz)).1.acts : Int), .int .i64 (d.step (stepOf kd nm to_ dt sz)).1.fails, .bool (d.step (stepOf kd nm to_ dt sz)).1.down]
      rw [hk2.1, hk2.2.1, hk2.2.2, hak.1, hak.2, hst, hd]
      rfl
    · show Kd.V _ _ w 0 _ (.slice A1 ((d.step (stepOf kd nm to_ dt sz)).1.lasts.map sp).length c1) ((d.step (stepOf kd nm to_ dt sz)).1.lasts.map sp)
      rw [hk2.1]
      exact Kd.V_mono (Kd.V_below hV.f q3) fun j hj => .inl hj
    · show Kd.V _ _ w 0 _ (.slice As (expns (d.step (stepOf kd nm to_ dt sz)).1.steps).length cs) (expns (d.step (stepOf kd nm to_ dt sz)).1.steps)
      rw [hst]
      exact Kd.V_mono q2 fun j hj => .inr hj
end
end Gd

namespace Gd
open Go.Proofs.Ytidijiijciokpaa.Blocks Frm Go.Proofs.Ytidijiijciokpaa.U
set_option maxRecDepth 100000
section
variable {W : World} {A1 A2 : Option Addr} {c1 c2 : Nat} {d : Ab} {P : Nat → Prop} {v : Value} {S : Nat → Prop} {dp : Nat}
/-- The document's disk, its cells by their names. -/
theorem doc_form (d : Ab) (A1 : Option Addr) (c1 : Nat) (A2 : Option Addr) (c2 : Nat) : ∃ n1, d.doc.val A1 c1 A2 c2 = .agg #[.int .i64 (d.room : Int), .slice A1 n1 c1, .slice A2 (pend d.steps) c2, .int .i64 (d.acts : Int), .int .i64 d.fails, .bool d.down] := by
  refine ⟨d.doc.l.length, ?_⟩
  unfold Rd.val
  rw [show d.doc.s.length = pend d.steps from expns_len _]
  rfl
theorem rfiles_v (hok : d.Ok) (hb : pend d.steps ≤ 1152921504606) (hV : DV W P d.doc A1 c1 A2 c2) (hv : v = d.doc.val A1 c1 A2 c2) : Calls Try.prog 73 #[v] W fun e w => ∃ A c, e = .returned (.slice A d.seen.length c) ∧ d.seen.length ≤ c ∧ Kd.C k118 w A (d.seen.map sp).length (d.seen.map sp) ∧ Kd.V k118 118 w 0 (fun j => P j ∨ W.heap.size ≤ j) (.slice A (d.seen.map sp).length c) (d.seen.map sp) ∧ Below W.heap.size W w := by
  subst hv
  exact rfiles (rm := d.doc.room) (ac := d.doc.acts) (fl := d.doc.fails) (off := d.doc.off) _ (files_g hok (by omega) _ _ _ _) hV.f hV.s
theorem rleft_v (hok : d.Ok) (hb : pend d.steps ≤ 1152921504606) (hV : DV W P d.doc A1 c1 A2 c2) (hv : v = d.doc.val A1 c1 A2 c2) (n : Int) : Calls Try.prog 72 #[v, .int .i64 n] W fun e w => ∃ A c, e = .returned (.slice A (d.left n).length c) ∧ (d.left n).length ≤ c ∧ Kd.C k118 w A ((d.left n).map sp).length ((d.left n).map sp) ∧ Below W.heap.size W w := by
  subst hv
  have hL := left_f hok (by omega) n (k := pend d.steps + 67108867) (by omega)
  refine (hawserref12_Disk_Left.calls _ d.doc.room P A1 c1 d.doc.l A2 c2 d.doc.s d.doc.acts d.doc.fails d.doc.off n _ W hV.f (Kd.V_reads' hV.s).2.2 (Kd.V_reads' hV.s).2.1 hL).mono fun e w ⟨v, q1, q2, q3⟩ => ?_
  obtain ⟨A, c, rfl⟩ := Kd.V_slice q2
  have h2 := Kd.V_reads' q2
  exact ⟨A, c, by rw [q1, List.length_map], by have := h2.2.1; rwa [List.length_map] at this, h2.2.2, q3⟩
theorem rread_v (hok : d.Ok) (hb : pend d.steps ≤ 1152921504606) (hV : DV W P d.doc A1 c1 A2 c2) (hv : v = d.doc.val A1 c1 A2 c2) (n : ByteArray) (hn : n.size ≤ 1099511627776) : Calls Try.prog 101 #[v, .string n] W fun e w => e = .returned (.tuple #[.string (readB d.down d.seen n), .int .i64 (readE d.down d.seen n)]) ∧ Below W.heap.size W w := by
  subst hv
  have h1 := hok.seenLe
  have h2 := hok.room
  have h3 := len_taken hok.seenSrt
  exact rread_calls (rm := d.doc.room) (ac := d.doc.acts) (fl := d.doc.fails) (off := d.doc.off) _ d.seen n hok.seenSrt (by omega) hn (files_g hok (by omega) _ _ _ _) hV.f hV.s
theorem read_same (d : Ab) (n : ByteArray) : readB d.down d.seen n = d.read n ∧ readE d.down d.seen n = thr d n [] := by
  unfold readB readE Ab.read
  by_cases hd : d.down = true
  · have : thr d n [] = 125 := by unfold thr rdy; simp [hd]
    rw [this]
    simp [hd]
  · have hd : d.down = false := by simpa using hd
    rw [thr_one d n hd, hd]
    by_cases q : isNm n = false
    · simp [q]
    · by_cases q2 : get d.seen n = none
      · simp [q, q2, dat]
      · simp [q, q2]
theorem same2_calls {A B : Option Addr} {c c2 : Nat} {fs gs : Fs} (hC : Kd.C k33 W A (fs.map sf).length (fs.map sf)) (hD : Kd.C k118 W B (gs.map sp).length (gs.map sp)) (hl : fs.length ≤ 1099511627777) : Calls Try.prog 50 #[.slice A fs.length c, .slice B gs.length c2] W fun e w => e = .returned (.bool (decide (fs = gs))) ∧ Below W.heap.size W w := by
  have := same_calls A B c c2 fs gs hC hD hl
  rwa [List.length_map, List.length_map] at this
theorem own_C {w : World} {B : Nat} {A : Option Addr} {c : Nat} {b : ByteArray} (h : w.ownsRow B 5 1 (.slice A b.size c) b.size (nums .u8 (bytesOf b))) : (Kd.int .u8).C w A b.size (bytesOf b) := by
  have h2 := (Kd.R_reads' (R_of_rw (ok := fun _ => True) h (fun _ _ => trivial) (Nat.le_refl B))).2.2
  rwa [bytesOf_length] at h2
set_option maxHeartbeats 1000000 in
theorem asked_calls (hD : Dk W S dp d) (hb : pend d.steps ≤ 1152921504606) (hV : DV W P d.doc A1 c1 A2 c2) (hv : v = d.doc.val A1 c1 A2 c2) (n : ByteArray) (hn : n.size ≤ 1099511627776) : Calls Try.prog 71 #[.pointer (some ⟨dp, 0, none⟩), v, .string n] W fun e w => e = .returned (.bool true) ∧ Below W.heap.size W w := by
  obtain ⟨n1, hf⟩ := doc_form d A1 c1 A2 c2
  rw [hf] at hv
  subst hv
  have HX := Aside0.mk (B1.new W #[.int .i64 (d.room : Int), .slice A1 n1 c1, .slice A2 (pend d.steps) c2, .int .i64 (d.acts : Int), .int .i64 d.fails, .bool d.down])
  have HF := Aside0.mk hf
  have HD := Aside0.mk (fun w (h : Below W.heap.size W w) => And.intro (hD.below h) (hV.below h))
  have HK := Aside0.mk (And.intro hD.ok (And.intro hb hn))
  have HRS := Aside0.mk (read_same d n)
  obtain ⟨x, hx⟩ : ∃ x, x = d.read n := ⟨_, rfl⟩
  obtain ⟨t, ht⟩ : ∃ t, t = thr d n [] := ⟨_, rfl⟩
  have HXT := Aside0.mk (And.intro hx.symm ht.symm)
  clear hx ht hD hV hb hn hf
  have hbq : (x.toList == x.toList) = true := by simp
  go_enter Try.func71, Try.ntmps71
  go_upto_region 1 with fail
  generalize W.alloc _ = w1 at HX ⊢
  go_upto_region 4 with (first
    | (go_at_call 27; refine Calls.mono (read_calls (HD.out _ HX.out.bel).1 n HK.out.2.2) ?_; rw [HXT.out.1, HXT.out.2]; rintro e w2 ⟨vb, rfl, h1, h2⟩; obtain ⟨Ab', cb, ev, _⟩ := own_form h1; subst ev; (have HX2 := Aside0.mk (HX.out.below h2)); (have HR2 := Aside0.mk h1); clear h1 h2)
    | (go_at_call 76; refine Calls.mono (size_calls (HD.out _ HX2.out.bel).1 n HK.out.2.2) ?_; rw [HXT.out.1, HXT.out.2]; rintro e w3 ⟨rfl, h2⟩; (have HX3 := Aside0.mk (HX2.out.below h2)); (have HR3 := Aside0.mk (own_below HR2.out h2)); clear h2; obtain ⟨c0, c1', c2', c3, c4, c5⟩ := HX3.out.cells)
    | (go_at_call 101; refine Calls.mono (rread_v HK.out.1 HK.out.2.1 (HD.out _ HX3.out.bel).2 HF.out.symm n HK.out.2.2) ?_; rw [HRS.out.1, HRS.out.2, HXT.out.1, HXT.out.2]; rintro e w4 ⟨rfl, h2⟩; (have HX4 := Aside0.mk (HX3.out.below h2)); (have HR4 := Aside0.mk (own_below HR3.out h2)); clear h2)
    | fail)
  have hcv := Kd.C_string (P := Try.prog) (c := cb) Try.underlying31 Try.underlying5 Try.underlying9 (own_C HR4.out)
  rw [str_bytes] at hcv
  go_wp2_with (first | (go_at_call 31; refine Calls.mono (num_calls _ _) ?_; rintro r w7 ⟨rfl, hw⟩; obtain rfl := hw.symm) | fail)
  go_ret
  exact ⟨rfl, HX4.out.bel⟩
end
end Gd

end Go.Proofs.Ytidijiijciokpaa.G
