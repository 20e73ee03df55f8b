import Derived.Test.YtidijiijciokpaaDR7
import Derived.Maps.OwnOps
import Derived.WideMake
import Derived.Laws.IdiomRangeMap
import Derived.Maps.AppendAt
import Derived.Deep.RegionLaw
import Derived.ArgAppend
import Derived.Maps.RangeRun
import Derived.Deep.Upon
import Derived.Deep.QuietTactic
import Derived.BigQuiet
import Derived.Deep.RegionHeld3
import Derived.Deep.DeepCutAuto
import Derived.Deep.CutBlock
import Derived.Laws.EntriesVeiled
import Derived.StillTailTactics
import Derived.Laws.Tables
import Derived.Laws.CopyOwn
import Derived.IntWalk
import Derived.Test.YtidijiijciokpaaBlocks
import Derived.Laws.CopyOwn
import Derived.Laws.Tables
import Derived.Outline
namespace Go.Proofs.Ytidijiijciokpaa.G
open Go.RowKit Go.Proofs.YtidijiijciokpaaW.PrintWords Go.Proofs.YtidijiijciokpaaW.PrintLast Go.Proofs.YtidijiijciokpaaW.PrintMore
set_option linter.unusedVariables false
set_option linter.unusedSimpArgs false
namespace Gd
open Go.Proofs.Ytidijiijciokpaa.Blocks Frm Go.Proofs.Ytidijiijciokpaa.U
set_option maxRecDepth 100000
section
variable {W : World} {A1 A2 : Option Addr} {c1 c2 : Nat} {d : Ab} {P : Nat → Prop} {v : Value} {S : Nat → Prop} {dp : Nat}
set_option maxHeartbeats 4000000 in
theorem looks_calls (hD : Dk W S dp d) (hbd : d.Bd) (hb : pend d.steps ≤ 1152921504606) (hV : DV W P d.doc A1 c1 A2 c2) (hv : v = d.doc.val A1 c1 A2 c2) : Calls Try.prog 33 #[.pointer (some ⟨dp, 0, none⟩), v] W fun e w => e = .returned (.bool true) ∧ Below W.heap.size W w := by
  obtain ⟨n1, hf⟩ := doc_form d A1 c1 A2 c2
  rw [hf] at hv
  subst hv
  have HX := Aside0.mk (B1.new W #[.int .i64 (d.room : Int), .slice A1 n1 c1, .slice A2 (pend d.steps) c2, .int .i64 (d.acts : Int), .int .i64 d.fails, .bool d.down])
  have HF := Aside0.mk hf
  have HD := Aside0.mk (fun w (h : Below W.heap.size W w) => And.intro (hD.below h) (hV.below h))
  have HK := Aside0.mk (And.intro hD.ok (And.intro hb hbd))
  have hle := hD.ok.seenLe
  have hrm := hD.ok.room
  have HLn := Aside0.mk hD.ok.seenLen
  have HU := Aside0.mk hD.ok.used
  have wf : IntKind.i64.wrap ((d.room : Int) - (taken d.seen : Int)) = (d.room : Int) - (taken d.seen : Int) := i64_of (by omega)
  have HTk := Aside0.mk (show taken d.seen ≤ 1099511627776 by omega)
  clear hD hV hb hbd hf hle hrm
  go_enter Try.func33, Try.ntmps33
  go_upto_region 1 with fail
  generalize W.alloc _ = w1 at HX ⊢
  go_upto_region 3 with (first
    | (go_at_call 26; refine Calls.mono (names_calls (HD.out _ HX.out.bel).1) ?_; rintro e w2 ⟨vn, rfl, h1, _, h2⟩; obtain ⟨An, cn, ev, _⟩ := own_form h1; subst ev; (have HX2 := Aside0.mk (HX.out.below h2)); (have HR2 := Aside0.mk h1); clear h1 h2; obtain ⟨c0, c1', c2', c3, c4, c5⟩ := HX2.out.cells)
    | (go_at_call 73; refine Calls.mono (rfiles_v HK.out.1 HK.out.2.1 (HD.out _ HX2.out.bel).2 HF.out.symm) ?_; rintro e w3 ⟨Af, cf, rfl, h1, h2, _, h3⟩; (have HX3 := Aside0.mk (HX2.out.below h3)); (have HR3 := Aside0.mk (own_below HR2.out h3)); (have HG3 := Aside0.mk (And.intro h1 h2)); clear h1 h2 h3 c0 c1' c2' c3 c4 c5)
    | fail)
  go_wp2
  go_loopw [7] (fun i wr => ∃ k : Nat, i = .int .i64 (k : Int) ∧ Aside0 (k ≤ d.seen.length ∧ Below w3.heap.size w3 wr)) (fun i _ => d.seen.length - (intOf i).toNat)
  case atStart => exact ⟨0, rfl, ⟨Nat.zero_le _, Below.refl _ _⟩⟩
  case round =>
    obtain ⟨k, rfl, HK2⟩ := hrel
    by_cases hlt : k < d.seen.length
    · have hki : (k : Int) < (d.seen.length : Int) := by omega
      have hk0 : (0 : Int) ≤ (k : Int) := by omega
      have w9 := i64_of (show -9223372036854775808 ≤ (k : Int) + 1 ∧ (k : Int) + 1 ≤ 9223372036854775807 by have := HLn.out; omega)
      have hnm : (d.seen.map fun p => Value.string p.1)[k]? = some (.string d.seen[k].1) := by simp [hlt]
      have hob := own_lower (own_below HR3.out HK2.out.2) (Nat.zero_le _)
      obtain ⟨ad, hA, hcell⟩ := own_at (ss := d.seen.map fun p => Value.string p.1) (by rw [List.length_map]; exact hob) hnm
      subst hA
      obtain ⟨bd, hB, b1, b2⟩ := sp_cells (Kd.C_below HG3.out.2 HK2.out.2) hlt
      subst hB
      clear hnm hob
      generalize d.seen[k].1 = nk at hcell b1
      clear b2
      have hs1 : (nk.toList == nk.toList) = true := by simp
      have hs2 : (nk == nk) = true := by rw [bytes_beq, decide_eq_true rfl]
      go_upto_region 6 with fail
      go_quiet (fail)
      have HB := Aside0.mk (HK2.out.2.trans (below_w (Drawn0.below (w := wr) (w' := wr.drewN nq) ⟨nq, rfl⟩) HK2.out.2.size))
      clear hcell b1
      generalize wr.drewN nq = w5 at HB ⊢
      go_wp2
      go_roundw
      case rel => exact ⟨k + 1, by push_cast; rfl, ⟨by omega, HB.out⟩⟩
      case measure => simp [intOf]; omega
    · have hk : k = d.seen.length := by have := HK2.out.1; omega
      subst hk
      clear hlt
      have HXr := Aside0.mk (HX3.out.below HK2.out.2)
      have HGr := Aside0.mk (And.intro HG3.out.1 (Kd.C_below HG3.out.2 HK2.out.2))
      clear HK2 HX3 HR3 HG3 HR2 HX2 HX
      go_upto_region 8 with fail
      have HXd := Aside0.mk (HXr.out.below (below_drew (Below.refl wr.heap.size wr)))
      have HGd := Aside0.mk (And.intro HGr.out.1 (Kd.C_below HGr.out.2 (below_drew (Below.refl wr.heap.size wr))))
      have n1' : ((d.seen.length : Int) == (d.seen.length : Int)) = true := by simp
      obtain ⟨c0, c1', c2', c3, c4, c5⟩ := HXd.out.cells
      go_cut [8] (fun v8 wx => v8 = .bool true ∧ Aside0 (B1 W wx W.heap.size #[.int .i64 (d.room : Int), .slice A1 n1 c1, .slice A2 (pend d.steps) c2, .int .i64 (d.acts : Int), .int .i64 d.fails, .bool d.down]))
      case first =>
        go_region_law (first
          | (go_simp; go_at_call 17; refine Calls.mono (files_calls (HD.out _ HXd.out.bel).1) ?_; rintro e wA ⟨vA, rfl, h1, h2⟩; obtain ⟨Aa, ca, ev⟩ := Kd.R_slice h1; rw [List.length_map] at ev; subst ev; (have HXa := Aside0.mk (HXd.out.below h2)); (have HRa := Aside0.mk (And.intro (Kd.R_reads' h1).2.2 (Kd.C_below HGd.out.2 h2))); clear h1 h2; (have c0a := HXa.out.cells.1))
          | (go_simp; go_at_call 50; refine Calls.mono (same2_calls HRa.out.1 HRa.out.2 HLn.out) ?_; rw [decide_eq_true (show d.seen = d.seen from rfl)]; rintro e wB ⟨rfl, h2⟩; (have HXb := Aside0.mk (HXa.out.below h2)); (have HRb := Aside0.mk (Kd.C_below HRa.out.2 h2)); clear h2; (have c0b := HXb.out.cells.1))
          | (go_simp; go_at_call 24; refine Calls.mono (free_calls (HD.out _ HXb.out.bel).1) ?_; rw [HU.out]; rintro e wC ⟨rfl, h2⟩; (have HXc := Aside0.mk (HXb.out.below h2)); (have HRc := Aside0.mk (Kd.C_below HRb.out h2)); clear h2; (have c0c := HXc.out.cells.1))
          | (go_simp; go_at_call 74; refine Calls.mono (rtaken HLn.out HTk.out HRc.out HGd.out.1) ?_; rintro e wD ⟨rfl, h2⟩; (have HXe := Aside0.mk (HXc.out.below (drawn_below h2))); clear h2; (have c0d := HXe.out.cells.1))
          | fail)
        all_goals
          go_wp2
          go_meet
          case rel => exact ⟨rfl, HXe⟩
      case rest =>
        obtain ⟨rfl, HXc⟩ := hcut
        clear c0 c1' c2' c3 c4 c5
        go_upto_region 9 with fail
        have HXd := Aside0.mk (HXc.out.below (below_drew (Below.refl wc.heap.size wc)))
        obtain ⟨c0, c1', c2', c3, c4, c5⟩ := HXd.out.cells
        go_region_law (first
          | (go_simp; go_at_call 75; refine Calls.mono (acts_calls (HD.out _ HXd.out.bel).1) ?_; rintro e wA ⟨rfl, hw⟩; obtain rfl := hw.symm)
          | (go_simp; go_at_call 13; refine Calls.mono (pending_calls (HD.out _ HXd.out.bel).1 HK.out.2.2) ?_; rintro e wB ⟨rfl, h2⟩; (have HXb := Aside0.mk (HXd.out.below h2)); clear h2; (have c2b := HXb.out.cells.2.2.1); (have c5b := HXb.out.cells.2.2.2.2.2))
          | (go_simp; go_at_call 22; refine Calls.mono (down_calls (HD.out _ HXb.out.bel).1) ?_; rintro e wC ⟨rfl, hw⟩; obtain rfl := hw.symm)
          | fail)
        all_goals
          go_wp2
          go_ret
          exact ⟨rfl, HXb.out.bel⟩
end
end Gd

end Go.Proofs.Ytidijiijciokpaa.G
