import Derived.Test.YtbfcejbjljalmaaF8
import Derived.Maps.OwnOps
import Derived.WideMake
import Derived.Laws.IdiomRangeMap
import Derived.Maps.AppendAt
import Derived.Deep.RegionLaw
import Derived.ArgAppend
import Derived.Deep.Upon
import Derived.Deep.QuietTactic
import Derived.BigQuiet
import Derived.Deep.RegionHeld3
import Derived.Deep.DeepCutAuto
import Derived.Deep.CutBlock
import Derived.Laws.EntriesVeiled
import Derived.StillTailTactics
import Derived.Laws.Tables
import Derived.Laws.CopyOwn
import Derived.IntWalk
import Derived.Test.YtbfcejbjljalmaaBlocks
import Derived.Laws.CopyOwn
import Derived.Laws.Tables
import Derived.Outline
namespace Go.Proofs.Ytbfcejbjljalmaa.P
open Go.RowKit Go.Proofs.YtbfcejbjljalmaaW.PrintWords Go.Proofs.YtbfcejbjljalmaaW.PrintLast Go.Proofs.YtbfcejbjljalmaaW.PrintMore
set_option linter.unusedVariables false
set_option linter.unusedSimpArgs false
namespace Wl
open Go.Proofs.Ytbfcejbjljalmaa.Blocks Frm
set_option maxRecDepth 100000
theorem next_end (W : World) (b mp : Nat) (s : ByteArray) (v : Value) (ty : TypeId) (hi : W.heap[b]? = some (.mapIter (some mp) 1 #[0] 1)) (hb : W.heap[mp]? = some (.map #[{ key := .string s, val := v, born := 0 }] 1)) :
    (Instr.next (.pointer (some ⟨b, 0, none⟩)) false ty).run Try.prog W = .ok (.tuple #[.bool false]) W := by
  simp only [Instr.next, getObj, Sem.run_bind, Sem.run, hi, hb, Result.andThen]
  simp [choose, Question.forced, Sem.run, Sem.run_bind, Result.andThen]
set_option maxHeartbeats 1000000 in
theorem copied1_calls (W : World) (mp : Nat) (ad : Addr) (c : Nat) (xs : List Int) (hm : W.heap[mp]? = some (.map #[fe (.slice (some ad) xs.length c)] 1)) (hX : Kd.C (Kd.int .u8) W (some ad) xs.length xs) (hl : xs.length ≤ 67108864) : Calls Try.prog 22 #[.map (some mp)] W fun e w' => ∃ m, e = .returned (.map (some m)) ∧ Below W.heap.size W w' := by
  unfold fe at hm
  have hmm := fun t w => run_makeMap (P := Try.prog) t w
  have hlt : mp < W.heap.size := (Array.getElem?_eq_some_iff.1 hm).1
  have hb1 : (W.alloc (.map #[] 0)).heap[mp]? = some (.map #[{ key := .string ⟨#[97]⟩, val := .slice (some ad) xs.length c, born := 0 }] 1) := (Below.heap_alloc _ _ _ hlt).trans hm
  have hsz : (W.alloc (.map #[] 0)).heap.size = W.heap.size + 1 := World.size_alloc _ _
  have hr := run_range_map (P := Try.prog) (W.alloc (.map #[] 0)) 51 9 29 mp _ 1 Try.underlying51 hb1
  have hn := fun ty => next_first (W.alloc (.map #[] 0)) mp ⟨#[97]⟩ (.slice (some ad) xs.length c) ty hb1
  have he : (Instr.entry (.pointer (some ⟨(W.alloc (.map #[] 0)).heap.size, 0, none⟩))).run Try.prog ((W.alloc (.map #[] 0)).alloc (.mapIter (some mp) 1 #[0] 1)) = .ok (.tuple #[.string ⟨#[97]⟩, .slice (some ad) xs.length c]) ((W.alloc (.map #[] 0)).alloc (.mapIter (some mp) 1 #[0] 1)) := run_entry_map (P := Try.prog) (W.alloc (.map #[] 0)) mp 1 #[] _ 1 { key := .string ⟨#[97]⟩, val := .slice (some ad) xs.length c, born := 0 } hb1 (by simp) (by simp)
  rw [hsz] at hn he
  have HB2 := Aside0.mk (below_alloc (below_alloc (Below.refl W.heap.size W) (.map #[] 0)) (.mapIter (some mp) 1 #[0] 1))
  have HN2 := Aside0.mk (show ((W.alloc (.map #[] 0)).alloc (.mapIter (some mp) 1 #[0] 1)).heap[W.heap.size]? = some (.map #[] 0) from (Below.heap_alloc _ _ _ (by rw [World.size_alloc]; omega)).trans (heap_alloc_new _ _))
  have HI2 := Aside0.mk (show ((W.alloc (.map #[] 0)).alloc (.mapIter (some mp) 1 #[0] 1)).heap[W.heap.size + 1]? = some (.mapIter (some mp) 1 #[0] 1) from by have := heap_alloc_new (W.alloc (.map #[] 0)) (.mapIter (some mp) 1 #[0] 1); rwa [World.size_alloc] at this)
  have HS2 : Aside0 (((W.alloc (.map #[] 0)).alloc (.mapIter (some mp) 1 #[0] 1)).heap.size = W.heap.size + 2) := ⟨by rw [World.size_alloc, World.size_alloc]⟩
  have HM2 := Aside0.mk ((HB2.out.block mp hlt).trans hm)
  have HX2 := Aside0.mk (Kd.C_below hX HB2.out)
  have HL := Aside0.mk hl
  clear hX hl hlt hb1
  go_enter Try.func22, Try.ntmps22
  go_wp2
  refine wp_loop_rounds 2 ?_
  rw [rounds_succ]
  go_upto_region 5 with fail
  generalize (W.alloc (.map #[] 0)).alloc (.mapIter (some mp) 1 #[0] 1) = w2 at HB2 HN2 HI2 HS2 HM2 HX2 ⊢
  have hne1 : mp ≠ W.heap.size := by
    intro h
    have h1 := HM2.out
    rw [h, HN2.out] at h1
    injection h1 with h1
    injection h1 with h1
    simp at h1
  have hne2 : mp ≠ W.heap.size + 1 := by
    intro h
    have h1 := HM2.out
    rw [h, HI2.out] at h1
    cases h1
  go_wp2_with (first | (go_at_call 21; refine (clone_calls HX2.out (by have := HL.out; omega)).mono ?_; rintro e w3 ⟨v3, rfl, _, _, hb3⟩; (have HB3 := Aside0.mk hb3); (have HN3 := Aside0.mk ((hb3.block _ (Array.getElem?_eq_some_iff.1 HN2.out).1).trans HN2.out)); (have hmu := run_mapUpdate_first (P := Try.prog) w3 51 9 29 W.heap.size 0 ⟨#[97]⟩ v3 Try.underlying51 Try.underlying9 HN3.out); (have HP := Aside0.mk (But.put (o := .map #[fe v3] 1) HB3.out HN3.out)); (have hnx := fun ty => next_end ({ w3 with heap := w3.heap.setIfInBounds W.heap.size (.map #[{ key := .string ⟨#[97]⟩, val := v3, born := 0 }] (0 + 1)) } : World) (W.heap.size + 1) mp ⟨#[97]⟩ (.slice (some ad) xs.length c) ty ((Array.getElem?_setIfInBounds_ne (by omega)).trans ((HB3.out.block _ (Array.getElem?_eq_some_iff.1 HI2.out).1).trans HI2.out)) ((Array.getElem?_setIfInBounds_ne (Ne.symm hne1)).trans ((HB3.out.block _ (Array.getElem?_eq_some_iff.1 HM2.out).1).trans HM2.out))); clear hb3) | fail)
  rw [rounds_succ]
  go_wp2
  go_ret
  exact ⟨_, rfl, HB2.out.trans ⟨HP.out.1.os, HP.out.1.tape, HP.out.1.output, HP.out.1.size, fun k hk => HP.out.1.block k (by have := HB2.out.size; omega) (by omega)⟩⟩
set_option maxHeartbeats 1000000 in
theorem sync_calls {W : World} {B dp mp : Nat} {room used acts : Int} {la sv : Value} {ad : Addr} {c : Nat} {ss : List Value} {xs : List Int} {bv : Nat} (h : Ds W B dp mp room used acts la sv ss #[fe (.slice (some ad) xs.length c)] 1) (hv : W.ownsRow bv 5 1 (.slice (some ad) xs.length c) xs.length (nums .u8 xs)) (h0 : 0 ≤ acts) (h1 : acts ≤ 1099511627776) (hB0 : B ≤ W.heap.size) (hl : xs.length ≤ 67108864) :
    Calls Try.prog 30 #[.pointer (some ⟨dp, 0, none⟩)] W fun e w => e = .returned (.int .i64 0) ∧ ∃ la', Ds w B dp mp room used (acts + 1) la' (.slice none 0 0) [] #[fe (.slice (some ad) xs.length c)] 1 ∧ Below B W w ∧ Fr dp mp W w := by
  have HD := Aside0.mk h
  have HV := Aside0.mk hv
  have HL := Aside0.mk hl
  have HB0 := Aside0.mk hB0
  clear h hv hl hB0
  go_enter Try.func30, Try.ntmps30
  go_wp2_with (first
    | (go_at_call 54; refine (ready0_calls HD.out).mono ?_; rintro e w2 ⟨rfl, hw⟩; subst hw)
    | (go_at_call 55; refine (act_calls HD.out h0 h1).mono ?_; rintro e w3 ⟨rfl, hd, hb, hf⟩; (have HD3 := Aside0.mk hd); (have HB3 := Aside0.mk hb); (have HF3 := Aside0.mk hf); (have HV3 := Aside0.mk (hf.own HV.out (HD.out.apart HV.out (by decide)) (by decide))); (have c1 : w3.cell? ⟨dp, 1, none⟩ = some (.map (some mp)) := blk_cell hd.dsk 1); clear hd hb hf)
    | (go_at_call 22; refine (copied1_calls _ _ _ _ _ HD3.out.map (Frm.C_own HV3.out) HL.out).mono ?_; rintro e w4 ⟨m4, rfl, hb⟩; (have HD4 := Aside0.mk (HD3.out.below hb)); (have HB4 := Aside0.mk (HB3.out.trans (below_w hb (Nat.le_trans HB0.out HB3.out.size)))); (have HF4 := Aside0.mk (HF3.out.trans (Fr.of hb))); (have k2 : w4.cell? ⟨dp, 2, none⟩ = some la := blk_cell HD4.out.dsk 2); (have k3 : w4.cell? ⟨dp, 3, none⟩ = some sv := blk_cell HD4.out.dsk 3); (have f2 : w4.frozen? ⟨dp, 2, none⟩ = false := blk_frozen HD4.out.dsk 2); (have f3 : w4.frozen? ⟨dp, 3, none⟩ = false := blk_frozen HD4.out.dsk 3); clear hb)
    | fail)
  go_ret
  have hne : mp ≠ dp := by
    rintro rfl
    have h1 := HD4.out.dsk
    rw [HD4.out.map] at h1
    cases h1
  refine ⟨rfl, _, ⟨blk_put (blk_put HD4.out.dsk 2 (.map (some m4)) rfl) 3 (.slice none 0 0) rfl, (Below.heap_setCell _ ⟨dp, 3, none⟩ _ mp hne).trans ((Below.heap_setCell w4 ⟨dp, 2, none⟩ _ mp hne).trans HD4.out.map), ⟨by simp, .inl ⟨rfl, rfl⟩⟩, HD4.out.gd, HD4.out.gm⟩, (HB4.out.setCell (p := ⟨dp, 2, none⟩) HD4.out.gd _).setCell (p := ⟨dp, 3, none⟩) HD4.out.gd _, (HF4.out.trans (Fr.set (mp := mp) (dp := dp) 2 _)).trans (Fr.set (mp := mp) (dp := dp) 3 _)⟩
end Wl

end Go.Proofs.Ytbfcejbjljalmaa.P
