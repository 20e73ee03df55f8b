import Derived.Test.YtepkaaplhcbkbaaGreatT7
import Derived.Deep.Upon
import Derived.Deep.QuietTactic
import Derived.BigQuiet
import Derived.Deep.RegionHeld3
import Derived.Deep.DeepCutAuto
import Derived.Deep.CutBlock
import Derived.Laws.EntriesVeiled
import Derived.StillTailTactics
import Derived.Laws.Tables
import Derived.Laws.CopyOwn
import Derived.Test.YtepkaaplhcbkbaaGreatBlocks
import Derived.Laws.CopyOwn
import Derived.Laws.Tables
import Derived.Outline
namespace Go.Proofs.YtepkaaplhcbkbaaGreat.G
open Go.RowKit Go.Proofs.YtepkaaplhcbkbaaGreatW.PrintWords Go.Proofs.YtepkaaplhcbkbaaGreatW.PrintLast Go.Proofs.YtepkaaplhcbkbaaGreatW.PrintMore
set_option linter.unusedVariables false
set_option linter.unusedSimpArgs false
namespace Msg
/-- 'lines()[k]' with its second answer, in whatever world the map lies so. -/
theorem look_all {W : World} {b : Nat} {es : Array MapEntry} (he : Ents W b 28 es) (j : Nat) (hj28 : j < 28) : ∃ g gf, Way W g (wsT j) ∧ Fld W gf (fsT j) ∧ ∀ w, w.heap[b]? = some (.map es 28) → (Instr.lookup 107 (.map (some b)) (.int .i64 ((j : Int) + 1)) true).run Tryz.prog w = .ok (.tuple #[.agg #[.string (nmT j), .slice (some ⟨g, 0, none⟩) (wsT j).length (wsT j).length, .slice (some ⟨gf, 0, none⟩) (fsT j).length (fsT j).length], .bool true]) w := by
  have hkeys : ∀ x ∈ es.toList, MapKept.IsKey (.int .i64) x.key := fun x hx => by
    obtain ⟨i, hi, rfl⟩ := List.getElem_of_mem hx
    rw [(he.ent i _ (by rw [Array.getElem?_eq_getElem (by simpa using hi)]; simp)).1]
    rfl
  have hc : ∀ w e, (Instr.checkKey e 10000 25 (.int .i64 ((j : Int) + 1))).run Tryz.prog w = .ok () w := fun w e => MapKept.run_checkKey (k := .int .i64 ((j : Int) + 1)) Tryz.underlying25 rfl e 9999
  rcases MapKept.findNow_spec (d := .int .i64) (k := .int .i64 ((j : Int) + 1)) rfl es.toList 0 hkeys with h | ⟨i, e, hf, hi, hk⟩
  · exact absurd (show 1 ≤ (j : Int) + 1 ∧ (j : Int) + 1 ≤ 28 by omega) (not_in he ((j : Int) + 1) h.2)
  · rw [Array.getElem?_toList] at hi
    obtain ⟨h1, g, gf, hv, hg, hgf, hw, hfl⟩ := he.ent i e hi
    rw [h1] at hk
    have hk := (Value.int.inj hk).2
    obtain rfl : i = j := by omega
    refine ⟨g, gf, hw, hfl, fun w hb => ?_⟩
    simp [Instr.lookup, run_underlying Tryz.underlying107, MapKept.run_getObj_map hb, hc, MapKept.run_findKey Tryz.underlying25 hf, Result.andThen, hv]
theorem few (j : Nat) (hj : j < 28) : (∃ p, wsT j = [p]) ∨ ∃ p q, wsT j = [p, q] := by
  have h : ∀ i : Nat, i < 28 → (∃ p, wsT i = [p]) ∨ ∃ p q, wsT i = [p, q] := by
    intro i hi
    have : i = 0 ∨ i = 1 ∨ i = 2 ∨ i = 3 ∨ i = 4 ∨ i = 5 ∨ i = 6 ∨ i = 7 ∨ i = 8 ∨ i = 9 ∨ i = 10 ∨ i = 11 ∨ i = 12 ∨ i = 13 ∨ i = 14 ∨ i = 15 ∨ i = 16 ∨ i = 17 ∨ i = 18 ∨ i = 19 ∨ i = 20 ∨ i = 21 ∨ i = 22 ∨ i = 23 ∨ i = 24 ∨ i = 25 ∨ i = 26 ∨ i = 27 := by omega
    rcases this with rfl | rfl | rfl | rfl | rfl | rfl | rfl | rfl | rfl | rfl | rfl | rfl | rfl | rfl | rfl | rfl | rfl | rfl | rfl | rfl | rfl | rfl | rfl | rfl | rfl | rfl | rfl | rfl <;> first | exact .inl ⟨_, rfl⟩ | exact .inr ⟨_, _, rfl⟩
  exact h j hj
theorem fsT_few (j : Nat) (hj : j < 28) : (fsT j).length ≤ 8 := by
  have : j = 0 ∨ j = 1 ∨ j = 2 ∨ j = 3 ∨ j = 4 ∨ j = 5 ∨ j = 6 ∨ j = 7 ∨ j = 8 ∨ j = 9 ∨ j = 10 ∨ j = 11 ∨ j = 12 ∨ j = 13 ∨ j = 14 ∨ j = 15 ∨ j = 16 ∨ j = 17 ∨ j = 18 ∨ j = 19 ∨ j = 20 ∨ j = 21 ∨ j = 22 ∨ j = 23 ∨ j = 24 ∨ j = 25 ∨ j = 26 ∨ j = 27 := by omega
  rcases this with rfl | rfl | rfl | rfl | rfl | rfl | rfl | rfl | rfl | rfl | rfl | rfl | rfl | rfl | rfl | rfl | rfl | rfl | rfl | rfl | rfl | rfl | rfl | rfl | rfl | rfl | rfl | rfl <;> simp [fsT]
/-- What stands behind the looking up of a kind's line. -/
structure Lk (W w : World) (m : Mg) (j : Nat) (p g gf : Nat) : Prop where
  line : w.heap[p]? = some (.cells #[.string (nmT j), .slice (some ⟨g, 0, none⟩) (wsT j).length (wsT j).length, .slice (some ⟨gf, 0, none⟩) (fsT j).length (fsT j).length] 106 (0, 0))
  way : Way w g (wsT j)
  fld : Fld w gf (fsT j)
  msg : w.heap[W.heap.size]? = some (.cells m.cells 49 (0, 0))
  bel : Below W.heap.size W w
theorem lk_a {W w1 : World} {m : Mg} {j g gf : Nat} (hB : Below (W.alloc (.cells m.cells 49)).drew.heap.size (W.alloc (.cells m.cells 49)).drew w1) (hW : Way w1 g (wsT j)) (hF : Fld w1 gf (fsT j)) : Lk W (w1.alloc (.cells #[.string (nmT j), .slice (some ⟨g, 0, none⟩) (wsT j).length (wsT j).length, .slice (some ⟨gf, 0, none⟩) (fsT j).length (fsT j).length] 106)) m j w1.heap.size g gf := by
  refine ⟨blk_new _ _, blk_alloc hW _, blk_alloc hF _, blk_alloc (blk_below (blk_drew (blk_new _ _)) hB) _, ?_⟩
  have h1 := hB.size
  have h2 : (W.alloc (.cells m.cells 49)).drew.heap.size = W.heap.size + 1 := World.size_alloc _ _
  exact ((below_alloc (Below.refl _ _) _).trans (below_weaken' (Drawn0.below ⟨1, rfl⟩) (by rw [World.size_alloc]; omega))).trans ((below_weaken' hB (by omega)).trans (below_weaken' (below_alloc (Below.refl w1.heap.size w1) _) (by omega)))
theorem lk_b {W w1 : World} {m : Mg} {j g gf : Nat} (hB : Below ((W.alloc (.cells m.cells 49)).alloc (.cells #[.string ⟨#[]⟩, .slice none 0 0, .slice none 0 0] 106)).drew.heap.size ((W.alloc (.cells m.cells 49)).alloc (.cells #[.string ⟨#[]⟩, .slice none 0 0, .slice none 0 0] 106)).drew w1) (hW : Way w1 g (wsT j)) (hF : Fld w1 gf (fsT j)) : Lk W (((w1.setCell ⟨W.heap.size + 1, 0, none⟩ (.string (nmT j))).setCell ⟨W.heap.size + 1, 1, none⟩ (.slice (some ⟨g, 0, none⟩) (wsT j).length (wsT j).length)).setCell ⟨W.heap.size + 1, 2, none⟩ (.slice (some ⟨gf, 0, none⟩) (fsT j).length (fsT j).length)) m j (W.heap.size + 1) g gf := by
  have hl : w1.heap[W.heap.size + 1]? = some (.cells #[.string ⟨#[]⟩, .slice none 0 0, .slice none 0 0] 106 (0, 0)) := blk_below (blk_drew (new2 _ _ _)) hB
  have hm : w1.heap[W.heap.size]? = some (.cells m.cells 49 (0, 0)) := blk_below (blk_drew (blk_alloc (blk_new _ _) _)) hB
  have n1 : g ≠ W.heap.size + 1 := blk_ne hW hl (by decide)
  have n2 : gf ≠ W.heap.size + 1 := blk_ne hF hl (by decide)
  have h2 : ((W.alloc (.cells m.cells 49)).alloc (.cells #[.string ⟨#[]⟩, .slice none 0 0, .slice none 0 0] 106)).drew.heap.size = W.heap.size + 1 + 1 := by show ((W.alloc (.cells m.cells 49)).alloc (.cells #[.string ⟨#[]⟩, .slice none 0 0, .slice none 0 0] 106)).heap.size = _; rw [World.size_alloc, World.size_alloc]
  refine ⟨blk_set (blk_set (blk_set hl 0 _) 1 _) 2 _, blk_far (blk_far (blk_far hW n1 _) n1 _) n1 _, blk_far (blk_far (blk_far hF n2 _) n2 _) n2 _, blk_far (blk_far (blk_far hm (by show W.heap.size ≠ W.heap.size + 1; omega) _) (by show W.heap.size ≠ W.heap.size + 1; omega) _) (by show W.heap.size ≠ W.heap.size + 1; omega) _, ?_⟩
  have hb0 : Below W.heap.size W w1 := ((below_alloc (below_alloc (Below.refl W.heap.size W) _) _).trans (below_weaken' (Drawn0.below ⟨1, rfl⟩) (by rw [World.size_alloc, World.size_alloc]; omega))).trans (below_weaken' hB (by omega))
  exact ((hb0.setCell (by show W.heap.size ≤ W.heap.size + 1; omega) _).setCell (by show W.heap.size ≤ W.heap.size + 1; omega) _).setCell (by show W.heap.size ≤ W.heap.size + 1; omega) _
/-- A field: its function, whether it may be so, and what it takes over. -/
structure FS where
  f : FuncId
  may : Mg → Ls → Bool
  part : Mg → Mg → Mg
/-- A message with just the kind and the ends of another one. -/
def bare0 (m : Mg) : Mg := ⟨m.kd, m.fr, m.tt, 0, 0, 0, 0, 0, ⟨#[]⟩, 0, ⟨#[]⟩, ⟨#[]⟩, 0, 0, 0, 0, 0, ⟨#[]⟩, ⟨#[]⟩, 0, 0, 0, ⟨#[]⟩, ⟨#[]⟩, 0, false, 0, none, 0, 0, 0, none, 0, 0, none, 0, 0, 0, false, none, 0, 0, 0, 0, 0⟩
def bareK (m : Mg) (Fs : List FS) : Mg := Fs.foldl (fun b x => x.part m b) (bare0 m)
def chk (j : Nat) (Fs : List FS) (m : Mg) (l : Ls) (r : Bool) : Int := if goes (wsT j) m = true then if Fs.all (fun x => x.may m l) = true then if r = true then 0 else 151 else 151 else 151
def zero37 : Array Value := #[.int .i64 0, .int .i64 0, .int .i64 0, .int .i64 0, .int .i64 0, .int .i64 0, .int .i64 0, .int .i64 0, .string ⟨#[]⟩, .int .i64 0, .string ⟨#[]⟩, .string ⟨#[]⟩, .int .i64 0, .int .i64 0, .int .i64 0, .int .i64 0, .int .i64 0, .string ⟨#[]⟩, .string ⟨#[]⟩, .int .i64 0, .int .i64 0, .int .i64 0, .string ⟨#[]⟩, .string ⟨#[]⟩, .int .i64 0, .bool false, .int .i64 0, .slice none 0 0, .int .i64 0, .slice none 0 0, .slice none 0 0, .int .i64 0, .bool false, .slice none 0 0, .int .i64 0, .int .i64 0, .int .i64 0]
/-- What a round of the fields finds. -/
structure Lp (W w : World) (m : Mg) (l : Ls) (j gf pB : Nat) (Fs : List FS) (k : Nat) : Prop where
  fld : Fld w gf (fsT j)
  msg : w.heap[W.heap.size]? = some (.cells m.cells 49 (0, 0))
  bare : w.heap[pB]? = some (.cells (bareK m (Fs.take k)).cells 49 (0, 0))
  rd : Rd w m l
  bel : Below W.heap.size W w
  lt : W.heap.size < pB
  ok : (Fs.take k).all (fun x => x.may m l) = true
theorem Lp.below {W w w' : World} {m : Mg} {l : Ls} {j gf pB k : Nat} {Fs : List FS} (h : Lp W w m l j gf pB Fs k) (hB : Below w.heap.size w w') : Lp W w' m l j gf pB Fs k :=
  ⟨blk_below h.fld hB, blk_below h.msg hB, blk_below h.bare hB, h.rd.below hB, h.bel.trans (below_weaken' hB h.bel.size), h.lt, h.ok⟩
set_option maxRecDepth 100000 in
set_option maxHeartbeats 1600000 in
theorem check_calls (W : World) (m : Mg) (l : Ls) (hr : Rd W m l) (j : Nat) (hj : j < 28) (hk : m.kd = (j : Int) + 1) (Fs : List FS) (hfs : fsT j = Fs.map (·.f)) (hsem : ∀ x ∈ Fs, FieldSem x.f x.may x.part) (r : Bool)
    (hal : ∀ w, Rd w m l → Calls Tryz.prog 25 #[.agg (bareK m Fs).cells, .agg m.cells] w fun e w' => e = .returned (.bool r) ∧ Below w.heap.size w w') : Calls Tryz.prog 18 #[.agg m.cells] W fun e w => e = .returned (.int .i64 (chk j Fs m l r)) ∧ Below W.heap.size W w := by
  have hk0 : (W.alloc (.cells m.cells 49)).cell? ⟨W.heap.size, 0, none⟩ = some (.int .i64 ((j : Int) + 1)) := by rw [← hk]; exact blk_cell (blk_new _ _) 0
  have e1 := World.new_ne (W.alloc (.cells m.cells 49)) ⟨W.heap.size, 0, none⟩ hk0
  have HR := Aside0.mk hr
  have HK := Aside0.mk hk
  have HS := Aside0.mk hsem
  have HA := Aside0.mk hal
  have HFS := Aside0.mk hfs
  have HI : Aside0 ((Tryz.prog.info? 49).map (·.size) = some 37) := ⟨by kernel_rfl⟩
  have HU := Aside0.mk Tryz.underlying49
  clear hk hr hsem hal hfs
  go_enter Tryz.func18, Tryz.ntmps18
  go_upto_region 1 with fail
  go_cut [3, 4] (fun s3 s4 wx => ∃ p g gf, s3 = .pointer (some ⟨p, 0, none⟩) ∧ s4 = .bool true ∧ Aside0 (Lk W wx m j p g gf))
  case first =>
    go_region_held3 (fun w' => w'.cell? ⟨W.heap.size, 0, none⟩ = some (.int .i64 ((j : Int) + 1))) (go_keep) ((go_at_call 46; refine (lines_calls _).mono ?_; rintro e w1 ⟨b, es, rfl, hE, hB⟩; (have hcx : w1.cell? ⟨W.heap.size, 0, none⟩ = some (.int .i64 ((j : Int) + 1)) := (hB.cell (p := ⟨W.heap.size, 0, none⟩) (by simp <;> omega)).trans (by first | assumption | exact hk0)); (have hcy := fun (b : Nat) (o : Nat) h => hB.cell (p := ⟨b, o, none⟩) h); (have hfy := fun (b : Nat) (o : Nat) h => hB.frozen (p := ⟨b, o, none⟩) h); obtain ⟨g, gf, hW, hF, hL⟩ := look_all hE j hj; (have hL1 := hL w1 hE.here); (have hL2 := fun o => hL (w1.alloc o) (blk_alloc hE.here o))))
    all_goals (go_wp2_with fail)
    all_goals go_meet
    · exact ⟨_, _, _, rfl, rfl, ⟨lk_a hB hW hF⟩⟩
    · exact ⟨_, _, _, rfl, rfl, ⟨lk_a hB hW hF⟩⟩
    · exact ⟨_, _, _, rfl, rfl, ⟨lk_b hB hW hF⟩⟩
  case rest =>
    obtain ⟨p, g, gf, rfl, rfl, HL⟩ := hcut
    have HM := Aside0.mk HL.out.msg
    have HR1 := Aside0.mk (HR.out.below HL.out.bel)
    have y0 : wc.cell? ⟨p, 0, none⟩ = some _ := blk_cell HL.out.line 0
    have y1 : wc.cell? ⟨p, 1, none⟩ = some _ := blk_cell HL.out.line 1
    have y2 : wc.cell? ⟨p, 2, none⟩ = some _ := blk_cell HL.out.line 2
    cases hg : goes (wsT j) m
    · have HN : Hid (chk j Fs m l r = 151) := by show chk j Fs m l r = 151; rw [chk, hg]; rfl
      go_wp2_with (first | ((with_reducible refine wpList_load_row rfl 49 (.tmp 1) rfl W.heap.size ?_ 49 m.cells (0, 0) _ HM.out HU.out ?_ ?_ ?_); (· rfl); (· rfl); (· exact HI.out)) | (go_at_call 48; refine (goes_calls _ _ _ _ _ _ _ m HL.out.way (few j hj)).mono ?_; rintro e w2 ⟨rfl, hb⟩; (have HB2 := Aside0.mk (HL.out.bel.trans (below_weaken' hb HL.out.bel.size))); clear hb) | go_in)
      go_ret
      exact ⟨by rw [HN.out]; rfl, HB2.out⟩
    · go_wp2_with (first | ((with_reducible refine wpList_load_row rfl 49 (.tmp 1) rfl W.heap.size ?_ 49 m.cells (0, 0) _ HM.out HU.out ?_ ?_ ?_); (· rfl); (· rfl); (· exact HI.out)) | (go_at_call 48; refine (goes_calls _ _ _ _ _ _ _ m HL.out.way (few j hj)).mono ?_; rintro e w2 ⟨rfl, hb⟩; (have HB2 := Aside0.mk (HL.out.bel.trans (below_weaken' hb HL.out.bel.size))); (have HF2 := Aside0.mk (show Fld w2 gf (fsT j) from blk_below HL.out.fld hb)); (have HM2 := Aside0.mk (blk_below HM.out hb)); (have HR2 := Aside0.mk (HR1.out.below hb)); (have z2 : ∀ o, ((w2.alloc o).setRow w2.heap.size (bare0 m).cells).cell? ⟨p, 2, none⟩ = some (.slice (some ⟨gf, 0, none⟩) (fsT j).length (fsT j).length) := fun o => blk_cell (w := (w2.alloc o).setRow w2.heap.size (bare0 m).cells) ((setRow_other _ _ _ _ (Nat.ne_of_lt (blk_lt (blk_below HL.out.line hb)))).trans (blk_alloc (blk_below HL.out.line hb) o)) 2); (have k0 : w2.cell? ⟨W.heap.size, 0, none⟩ = some (.int .i64 m.kd) := blk_cell HM2.out 0); (have k1 : w2.cell? ⟨W.heap.size, 1, none⟩ = some (.int .i64 m.fr) := blk_cell HM2.out 1); (have k2 : w2.cell? ⟨W.heap.size, 2, none⟩ = some (.int .i64 m.tt) := blk_cell HM2.out 2); clear hb) | ((with_reducible refine wpList_store_row rfl 49 (.tmp 5) (.tmp 28) rfl w2.heap.size (bare0 m).cells ?d1 ?d2 49 zero37 ?c1 ?c2 ?c3 ?c4 ?_); (case d1 => rfl); (case d2 => rfl); (case c1 => exact blk_new w2 _); (case c2 => exact HI.out); (case c3 => rfl); (case c4 => kernel_rfl)) | go_in)
      have HL0 : Aside0 (Lp W ((w2.alloc (.cells zero37 49)).setRow w2.heap.size (bare0 m).cells) m l j gf w2.heap.size Fs 0) := ⟨by
        have hW1 := HB2.out.size
        have hgf := blk_lt HF2.out
        have hms := blk_lt HM2.out
        refine ⟨(setRow_other _ _ _ _ (by omega)).trans (blk_alloc HF2.out _), (setRow_other _ _ _ _ (by omega)).trans (blk_alloc HM2.out _), setRow_heap _ _ _ _ _ (0, 0) (blk_new _ _), HR.out.below (below_setRow (HB2.out.alloc HB2.out.size _) HB2.out.size _), below_setRow (HB2.out.alloc HB2.out.size _) HB2.out.size _, hms, rfl⟩⟩
      go_loopw [32] (fun v wr => ∃ k : Nat, v = .int .i64 k ∧ k ≤ (fsT j).length ∧ Aside0 (Lp W wr m l j gf w2.heap.size Fs k)) (fun v _ => (fsT j).length - (intOf v).toNat)
      case atStart => exact ⟨0, rfl, Nat.zero_le _, HL0⟩
      case round =>
        obtain ⟨k, rfl, hk, HP⟩ := hrel
        have hlen : (fsT j).length = Fs.length := by rw [HFS.out, List.length_map]
        have hk8 : k ≤ 8 := Nat.le_trans hk (fsT_few j hj)
        by_cases hlt : k < (fsT j).length
        · have hltF : k < Fs.length := by omega
          obtain ⟨x, hx⟩ : ∃ x, x = Fs[k] := ⟨_, rfl⟩
          have hmem : x ∈ Fs := by rw [hx]; exact List.getElem_mem _
          have hcf : wr.cell? ⟨gf, k, none⟩ = some (.func (.func x.f) #[] #[]) := by
            have h1 := blk_cell HP.out.fld k
            rw [h1, hx]
            have : (fsT j)[k]? = some Fs[k].f := by rw [HFS.out, List.getElem?_map, List.getElem?_eq_getElem hltF]; rfl
            simp [this]
          have hent : ∀ (args : Array Value) (w : World), Sem.run Tryz.prog (callFunc x.f args) w = .ok (.enter x.f args) w := (HS.out x hmem).ent
          have HRun := Aside0.mk (HS.out x hmem).run
          have HTK : Aside0 (Fs.take (k + 1) = Fs.take k ++ [x]) := ⟨by rw [hx, List.take_succ_eq_append_getElem hltF]⟩
          have hki : (k : Int) < ((fsT j).length : Int) := by omega
          clear hlen hltF hx
          cases hmay : x.may m l
          · have HN : Hid (chk j Fs m l r = 151) := by
              show chk j Fs m l r = 151
              have : Fs.all (fun x => x.may m l) = false := by
                rw [List.all_eq_false]
                exact ⟨x, hmem, by rw [hmay]; simp⟩
              rw [chk, hg, this]; rfl
            clear hmem
            go_wp2_with (first | ((with_reducible refine (HRun.out _).mono ?_); rintro e w4 ⟨f0, c0, f1, c1, f2, c2, f3, c3, rfl, hv⟩; (have HV := Aside0.mk hv); clear hv; (have HB4 := Aside0.mk (HP.out.bel.trans (below_weaken' HV.out.bel HP.out.bel.size))); (have HP4 := Aside0.mk (HP.out.below HV.out.bel)); (have HM4 := Aside0.mk (fun o => blk_alloc HP4.out.msg o)); (have hf2 : ∀ (args : Array Value) (w : World), Sem.run Tryz.prog (callFunc f2 args) w = .ok (.enter f2 args) w := HV.out.e2); (have hf3 : ∀ (args : Array Value) (w : World), Sem.run Tryz.prog (callFunc f3 args) w = .ok (.enter f3 args) w := HV.out.e3); (have HMay := Aside0.mk (fun w3 (hs : Same wr.heap.size w4 w3) (hr : Rd w3 m l) => HV.out.may w3 hs m l hr)); (have HPart := Aside0.mk (fun w3 (hs : Same wr.heap.size w4 w3) b hb => HV.out.part w3 hs m b w2.heap.size hb))) | ((with_reducible refine wpList_load_row rfl 49 (.tmp 1) rfl W.heap.size ?_ 49 m.cells (0, 0) _ (HM4.out _) HU.out ?_ ?_ ?_); (· rfl); (· rfl); (· exact HI.out)) | ((with_reducible refine (HMay.out _ ?_ ?_).mono ?_); (· exact fun k _ hk => heap_alloc_old _ _ hk); (· exact HP4.out.rd.below (below_alloc (Below.refl _ _) _)); rintro e w5 ⟨rfl, hb⟩; (have HB5 := Aside0.mk hb); clear hb; (have HP5 := Aside0.mk ((HP4.out.below (below_alloc (Below.refl _ _) _)).below HB5.out)); (have HM5 := Aside0.mk HP5.out.msg); (have HX5 := Aside0.mk (blk_below (blk_new w4 _) HB5.out)); (have bx3 : w5.cell? ⟨w4.heap.size, 3, none⟩ = some (.func (.func f3) #[] c3) := blk_cell HX5.out 3)) | go_in)
            go_ret
            exact ⟨by rw [HN.out]; rfl, HP5.out.bel⟩
          · clear hmem
            go_wp2_with (first | ((with_reducible refine (HRun.out _).mono ?_); rintro e w4 ⟨f0, c0, f1, c1, f2, c2, f3, c3, rfl, hv⟩; (have HV := Aside0.mk hv); clear hv; (have HB4 := Aside0.mk (HP.out.bel.trans (below_weaken' HV.out.bel HP.out.bel.size))); (have HP4 := Aside0.mk (HP.out.below HV.out.bel)); (have HM4 := Aside0.mk (fun o => blk_alloc HP4.out.msg o)); (have hf2 : ∀ (args : Array Value) (w : World), Sem.run Tryz.prog (callFunc f2 args) w = .ok (.enter f2 args) w := HV.out.e2); (have hf3 : ∀ (args : Array Value) (w : World), Sem.run Tryz.prog (callFunc f3 args) w = .ok (.enter f3 args) w := HV.out.e3); (have HMay := Aside0.mk (fun w3 (hs : Same wr.heap.size w4 w3) (hr : Rd w3 m l) => HV.out.may w3 hs m l hr)); (have HPart := Aside0.mk (fun w3 (hs : Same wr.heap.size w4 w3) b hb => HV.out.part w3 hs m b w2.heap.size hb))) | ((with_reducible refine wpList_load_row rfl 49 (.tmp 1) rfl W.heap.size ?_ 49 m.cells (0, 0) _ (HM4.out _) HU.out ?_ ?_ ?_); (· rfl); (· rfl); (· exact HI.out)) | ((with_reducible refine (HMay.out _ ?_ ?_).mono ?_); (· exact fun k _ hk => heap_alloc_old _ _ hk); (· exact HP4.out.rd.below (below_alloc (Below.refl _ _) _)); rintro e w5 ⟨rfl, hb⟩; (have HB5 := Aside0.mk hb); clear hb; (have HP5 := Aside0.mk ((HP4.out.below (below_alloc (Below.refl _ _) _)).below HB5.out)); (have HM5 := Aside0.mk HP5.out.msg); (have HX5 := Aside0.mk (blk_below (blk_new w4 _) HB5.out)); (have bx3 : w5.cell? ⟨w4.heap.size, 3, none⟩ = some (.func (.func f3) #[] c3) := blk_cell HX5.out 3)) | ((with_reducible refine wpList_load_row rfl 49 (.tmp 1) rfl W.heap.size ?_ 49 m.cells (0, 0) _ HM5.out HU.out ?_ ?_ ?_); (· rfl); (· rfl); (· exact HI.out)) | ((with_reducible refine (HPart.out _ ?_ (bareK m (Fs.take k)) ?_).mono ?_); (· exact fun k _ hk => (HB5.out.block k (by rw [World.size_alloc]; omega)).trans (heap_alloc_old _ _ hk)); (· exact HP5.out.bare); rintro e w6 ⟨rfl, hp⟩; (have HQ := Aside0.mk hp); clear hp) | go_in)
            go_roundw
            case rel =>
              have hlt1 : k + 1 ≤ (fsT j).length := hlt
              refine ⟨k + 1, by go_num, hlt1, ⟨?_⟩⟩
              have hne : gf ≠ w2.heap.size := blk_ne HP5.out.fld HP5.out.bare (by decide)
              have hlt2 := HP5.out.lt
              have hB6 : Below W.heap.size W w6 := HP5.out.bel.trans ⟨HQ.out.os, HQ.out.tape, HQ.out.output, HQ.out.size, fun q hq => HQ.out.block q (by have := HP5.out.bel.size; omega) (by omega)⟩
              refine ⟨(HQ.out.block gf (blk_lt HP5.out.fld) hne).trans HP5.out.fld, (HQ.out.block W.heap.size (blk_lt HP5.out.msg) (by omega)).trans HP5.out.msg, ?_, HR.out.below hB6, hB6, hlt2, ?_⟩
              · rw [HTK.out, bareK, List.foldl_append]
                exact HQ.out.here
              · rw [HTK.out, List.all_append, HP.out.ok]
                simp [hmay]
            case measure => simp [intOf]; omega
        · have hkn : k = Fs.length := by omega
          have HTA : Aside0 (Fs.take k = Fs) := ⟨by rw [hkn, List.take_length]⟩
          have HBA : Aside0 (wr.heap[w2.heap.size]? = some (.cells (bareK m Fs).cells 49 (0, 0))) := ⟨by have := HP.out.bare; rwa [HTA.out] at this⟩
          have HOK : Aside0 (Fs.all (fun x => x.may m l) = true) := ⟨by have := HP.out.ok; rwa [HTA.out] at this⟩
          have HMW := Aside0.mk HP.out.msg
          have HN : Hid (chk j Fs m l r = if r = true then 0 else 151) := by show chk j Fs m l r = _; rw [chk, hg, HOK.out]; rfl
          clear hkn hlen
          cases r with
          | true =>
            go_wp2_with (first | ((with_reducible refine wpList_load_row rfl 49 (.tmp 5) rfl w2.heap.size ?_ 49 (bareK m Fs).cells (0, 0) _ HBA.out HU.out ?_ ?_ ?_); (· rfl); (· rfl); (· exact HI.out)) | ((with_reducible refine wpList_load_row rfl 49 (.tmp 1) rfl W.heap.size ?_ 49 m.cells (0, 0) _ HMW.out HU.out ?_ ?_ ?_); (· rfl); (· rfl); (· exact HI.out)) | ((with_reducible refine (HA.out _ HP.out.rd).mono ?_); rintro e w7 ⟨rfl, hb⟩; (have HB7 := Aside0.mk (HP.out.bel.trans (below_weaken' hb HP.out.bel.size))); clear hb) | go_in)
            go_ret
            exact ⟨by rw [HN.out]; rfl, HB7.out⟩
          | false =>
            go_wp2_with (first | ((with_reducible refine wpList_load_row rfl 49 (.tmp 5) rfl w2.heap.size ?_ 49 (bareK m Fs).cells (0, 0) _ HBA.out HU.out ?_ ?_ ?_); (· rfl); (· rfl); (· exact HI.out)) | ((with_reducible refine wpList_load_row rfl 49 (.tmp 1) rfl W.heap.size ?_ 49 m.cells (0, 0) _ HMW.out HU.out ?_ ?_ ?_); (· rfl); (· rfl); (· exact HI.out)) | ((with_reducible refine (HA.out _ HP.out.rd).mono ?_); rintro e w7 ⟨rfl, hb⟩; (have HB7 := Aside0.mk (HP.out.bel.trans (below_weaken' hb HP.out.bel.size))); clear hb) | go_in)
            go_ret
            exact ⟨by rw [HN.out]; rfl, HB7.out⟩
end Msg

end Go.Proofs.YtepkaaplhcbkbaaGreat.G
