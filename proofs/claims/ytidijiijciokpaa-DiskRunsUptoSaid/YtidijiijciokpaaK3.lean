import Derived.Test.YtidijiijciokpaaK2
import Derived.Deep.MidRow
import Derived.Maps.OwnOps
import Derived.WideMake
import Derived.Laws.IdiomRangeMap
import Derived.Maps.AppendAt
import Derived.Deep.RegionLaw
import Derived.ArgAppend
import Derived.Maps.RangeRun
import Derived.Deep.Upon
import Derived.Deep.QuietTactic
import Derived.BigQuiet
import Derived.Deep.RegionHeld3
import Derived.Deep.DeepCutAuto
import Derived.Deep.CutBlock
import Derived.Laws.EntriesVeiled
import Derived.StillTailTactics
import Derived.Laws.Tables
import Derived.Laws.CopyOwn
import Derived.IntWalk
import Derived.Test.YtidijiijciokpaaBlocks
import Derived.Laws.CopyOwn
import Derived.Laws.Tables
import Derived.Outline
namespace Go.Proofs.Ytidijiijciokpaa.G
open Go.RowKit Go.Proofs.YtidijiijciokpaaW.PrintWords Go.Proofs.YtidijiijciokpaaW.PrintLast Go.Proofs.YtidijiijciokpaaW.PrintMore
set_option linter.unusedVariables false
set_option linter.unusedSimpArgs false
namespace Gd
open Go.Proofs.Ytidijiijciokpaa.Blocks Frm
set_option maxRecDepth 100000
section
variable {W : World} {S : Nat → Prop} {dp : Nat} {d : Ab}
def Ab.read (d : Ab) (n : ByteArray) : ByteArray := if thr d n [] = 0 then dat d.seen n else ⟨#[]⟩
theorem own_none (W : World) : W.ownsRow W.heap.size 5 1 (.slice none 0 0) (⟨#[]⟩ : ByteArray).size (nums .u8 (bytesOf ⟨#[]⟩)) := ⟨rfl, .inl ⟨rfl, rfl⟩⟩
set_option maxHeartbeats 1000000 in
theorem read_calls (h : Dk W S dp d) (n : ByteArray) (hn : n.size ≤ 1099511627776) : Calls Try.prog 27 #[.pointer (some ⟨dp, 0, none⟩), .string n] W fun e w => ∃ v, e = .returned (.tuple #[v, .int .i64 (thr d n [])]) ∧ w.ownsRow W.heap.size 5 1 v (d.read n).size (nums .u8 (bytesOf (d.read n))) ∧ Below W.heap.size W w := by
  obtain ⟨R, mp, lp, sv, ss, hD, hok, hS, hl⟩ := h
  have HT := Aside0.mk (there_calls hD n none 0 [] (Kd.C_nil _ _) (by simp) (by intro m hm; obtain rfl := List.mem_singleton.1 hm; omega))
  have HD := Aside0.mk hD
  have HQ := Aside0.mk hok
  clear hD hok hS hl
  by_cases hr : thr d n [] ≠ 0
  · have hE := Aside0.mk (show d.read n = ⟨#[]⟩ by simp only [Ab.read]; rw [if_neg hr])
    have hne : (thr d n [] != 0) = true := by simpa using hr
    have hne2 : (thr d n [] == 0) = false := by simpa using hr
    go_enter Try.func27, Try.ntmps27
    go_wp2_with (first
      | (go_at_call 65; refine HT.out.mono ?_; rintro r w2 ⟨rfl, hw⟩; (have HB := Aside0.mk hw); clear hw)
      | fail)
    go_ret2
    rw [hE.out]
    exact ⟨_, rfl, own_lower (own_none _) HB.out.size, HB.out⟩
  have hr : thr d n [] = 0 := Decidable.not_not.1 hr
  have hg := thr_get hr
  obtain ⟨x, hx⟩ := Option.ne_none_iff_exists'.1 hg
  have hE := Aside0.mk (show d.read n = x by simp only [Ab.read]; rw [if_pos hr]; simp [dat, hx])
  have HX := Aside0.mk hx
  have hle := HQ.out.seenLe
  have hrm := HQ.out.room
  have hxl := taken_mem (get_mem hx)
  have hxx : (n, x).1.size + (n, x).2.size = n.size + x.size := rfl
  have HL := Aside0.mk (show x.size ≤ 1099511627776 by omega)
  rw [hr] at HT ⊢
  clear hr hg hx hle hrm hxl hxx
  go_enter Try.func27, Try.ntmps27
  go_wp2_with (first
    | (go_at_call 65; refine HT.out.mono ?_; rintro r w2 ⟨rfl, hw⟩; (have HB := Aside0.mk hw); clear hw; (have HD2 := Aside0.mk (HD.out.below HB.out)); (have c1 : w2.cell? ⟨dp, 1, none⟩ = some (.map (some mp)) := blk_cell HD2.out.dsk 1); obtain ⟨v, hv, _, hlk⟩ := HD2.out.seen.look HX.out; (have HV := Aside0.mk hv); clear hv)
    | (go_at_call 57; refine (clone_any HV.out HL.out).mono ?_; rintro e w3 ⟨v3, rfl, hv3, hb3⟩; (have H3 := Aside0.mk (And.intro hv3 hb3)); clear hv3 hb3)
    | fail)
  go_ret2
  rw [hE.out]
  exact ⟨_, rfl, own_lower H3.out.1 HB.out.size, HB.out.trans (below_w H3.out.2 HB.out.size)⟩
set_option maxHeartbeats 1000000 in
theorem size_calls (h : Dk W S dp d) (n : ByteArray) (hn : n.size ≤ 1099511627776) : Calls Try.prog 76 #[.pointer (some ⟨dp, 0, none⟩), .string n] W fun e w => e = .returned (.tuple #[.int .i64 ((d.read n).size : Int), .int .i64 (thr d n [])]) ∧ Below W.heap.size W w := by
  obtain ⟨R, mp, lp, sv, ss, hD, hok, hS, hl⟩ := h
  have HT := Aside0.mk (there_calls hD n none 0 [] (Kd.C_nil _ _) (by simp) (by intro m hm; obtain rfl := List.mem_singleton.1 hm; omega))
  have HD := Aside0.mk hD
  have HQ := Aside0.mk hok
  clear hD hok hS hl
  by_cases hr : thr d n [] ≠ 0
  · have hE := Aside0.mk (show d.read n = ⟨#[]⟩ by simp only [Ab.read]; rw [if_neg hr])
    have hne : (thr d n [] != 0) = true := by simpa using hr
    have hne2 : (thr d n [] == 0) = false := by simpa using hr
    go_enter Try.func76, Try.ntmps76
    go_wp2_with (first
      | (go_at_call 65; refine HT.out.mono ?_; rintro r w2 ⟨rfl, hw⟩; (have HB := Aside0.mk hw); clear hw)
      | fail)
    go_ret2
    rw [hE.out]
    exact ⟨rfl, HB.out⟩
  have hr : thr d n [] = 0 := Decidable.not_not.1 hr
  have hg := thr_get hr
  obtain ⟨x, hx⟩ := Option.ne_none_iff_exists'.1 hg
  have hE := Aside0.mk (show d.read n = x by simp only [Ab.read]; rw [if_pos hr]; simp [dat, hx])
  have HX := Aside0.mk hx
  rw [hr] at HT ⊢
  clear hr hg hx
  go_enter Try.func76, Try.ntmps76
  go_wp2_with (first
    | (go_at_call 65; refine HT.out.mono ?_; rintro r w2 ⟨rfl, hw⟩; (have HB := Aside0.mk hw); clear hw; (have HD2 := Aside0.mk (HD.out.below HB.out)); (have c1 : w2.cell? ⟨dp, 1, none⟩ = some (.map (some mp)) := blk_cell HD2.out.dsk 1); obtain ⟨v, hv, _, hlk⟩ := HD2.out.seen.look HX.out; obtain ⟨Av, cv, rfl, _⟩ := hv.form; clear hv)
    | fail)
  go_ret2
  rw [hE.out]
  exact ⟨rfl, HB.out⟩
theorem free_calls (h : Dk W S dp d) : Calls Try.prog 24 #[.pointer (some ⟨dp, 0, none⟩)] W fun e w => e = .returned (.int .i64 ((d.room : Int) - (d.used : Int))) ∧ Below W.heap.size W w := by
  obtain ⟨R, mp, lp, sv, ss, hD, hok, hS, hl⟩ := h
  have hug := hok.used
  have hle := hok.seenLe
  have hrm := hok.room
  have hw1 := i64_of (show -9223372036854775808 ≤ (d.room : Int) - (d.used : Int) ∧ (d.room : Int) - (d.used : Int) ≤ 9223372036854775807 by omega)
  have hw2 := w64_of (show -9223372036854775808 ≤ (d.room : Int) - (d.used : Int) ∧ (d.room : Int) - (d.used : Int) ≤ 9223372036854775807 by constructor <;> (clear hw1; omega))
  clear hug hle hrm
  have c0 : W.cell? ⟨dp, 0, none⟩ = some (.int .i64 (d.room : Int)) := blk_cell hD.dsk 0
  have c4 : W.cell? ⟨dp, 4, none⟩ = some (.int .i64 (d.used : Int)) := blk_cell hD.dsk 4
  have HD := Aside0.mk hD
  clear hD hok hS hl
  go_enter Try.func24, Try.ntmps24
  go_upto_region 3 with (first | (go_at_call 47; refine (made_calls HD.out).mono ?_; rintro e w2 ⟨rfl, hw⟩; obtain rfl := hw.symm) | fail)
  go_quiet (fail)
  have HB2 := Aside0.mk (Drawn0.below (w := W) (w' := W.drewN nq) ⟨nq, rfl⟩)
  clear c0 c4
  generalize W.drewN nq = w2 at HB2 ⊢
  go_wp2
  go_ret
  exact ⟨rfl, HB2.out⟩
theorem acts_calls (h : Dk W S dp d) : Calls Try.prog 75 #[.pointer (some ⟨dp, 0, none⟩)] W fun e w => e = .returned (.int .i64 (d.acts : Int)) ∧ w = W := by
  obtain ⟨R, mp, lp, sv, ss, hD, hok, hS, hl⟩ := h
  have c5 : W.cell? ⟨dp, 5, none⟩ = some (.int .i64 (d.acts : Int)) := blk_cell hD.dsk 5
  have HD := Aside0.mk hD
  clear hD hok hS hl
  go_enter Try.func75, Try.ntmps75
  go_wp2_with (first | (go_at_call 47; refine (made_calls HD.out).mono ?_; rintro e w2 ⟨rfl, hw⟩; obtain rfl := hw.symm) | fail)
  go_ret
  exact ⟨rfl, rfl⟩
theorem down_calls (h : Dk W S dp d) : Calls Try.prog 22 #[.pointer (some ⟨dp, 0, none⟩)] W fun e w => e = .returned (.bool d.down) ∧ w = W := by
  obtain ⟨R, mp, lp, sv, ss, hD, hok, hS, hl⟩ := h
  have c5 : W.cell? ⟨dp, 7, none⟩ = some (.bool d.down) := blk_cell hD.dsk 7
  have HD := Aside0.mk hD
  clear hD hok hS hl
  go_enter Try.func22, Try.ntmps22
  go_wp2_with (first | (go_at_call 47; refine (made_calls HD.out).mono ?_; rintro e w2 ⟨rfl, hw⟩; obtain rfl := hw.symm) | fail)
  go_ret
  exact ⟨rfl, rfl⟩
end
end Gd

namespace Gd
open Go.Proofs.Ytidijiijciokpaa.Blocks Frm
set_option maxRecDepth 100000
section
variable {W : World} {S : Nat → Prop} {dp : Nat} {d : Ab}
def Ab.fail (d : Ab) (n : Int) : Ab := if d.down then d else { d with fails := if n < 0 then 0 else n }
def Ab.start (d : Ab) : Ab := { d with down := false }
theorem start_calls (h : Dk W S dp d) : Calls Try.prog 18 #[.pointer (some ⟨dp, 0, none⟩)] W fun e w => e = .returned (.tuple #[]) ∧ ∃ S', Dk w S' dp d.start ∧ Ext S W w S' := by
  obtain ⟨R, mp, lp, sv, ss, hD, hok, hS, hl⟩ := h
  have c7 : W.cell? ⟨dp, 7, none⟩ = some (.bool d.down) := blk_cell hD.dsk 7
  have z7 : W.frozen? ⟨dp, 7, none⟩ = false := blk_frozen hD.dsk 7
  have HP := Aside0.mk (lift hS hl (Below.refl _ _) (hD.upd (W' := W.setCell ⟨dp, 7, none⟩ (.bool false)) (d' := d.start) (blk_put hD.dsk 7 _ rfl) (fun k hk => Below.heap_setCell W ⟨dp, 7, none⟩ _ k hk) (by rw [World.size_setCell]; omega) rfl rfl rfl) (ext_set _ _ _ _ _ ft_dp) (show d.start.Ok from ⟨hok.room, hok.srt, hok.good, hok.seen, hok.used, hok.pos, hok.fails⟩))
  have HD := Aside0.mk hD
  clear hD hok hS hl
  go_enter Try.func18, Try.ntmps18
  go_wp2_with (first | (go_at_call 47; refine (made_calls HD.out).mono ?_; rintro e w2 ⟨rfl, hw⟩; obtain rfl := hw.symm) | fail)
  go_end0
  exact ⟨rfl, HP.out⟩
set_option maxHeartbeats 1000000 in
theorem fail_calls (h : Dk W S dp d) (n : Int) (hn : n ≤ 9223372036854775807) : Calls Try.prog 19 #[.pointer (some ⟨dp, 0, none⟩), .int .i64 n] W fun e w => e = .returned (.tuple #[]) ∧ ∃ S', Dk w S' dp (d.fail n) ∧ Ext S W w S' := by
  have HK := Aside0.mk h
  obtain ⟨R, mp, lp, sv, ss, hD, hok, hS, hl⟩ := h
  have c7 : W.cell? ⟨dp, 7, none⟩ = some (.bool d.down) := blk_cell hD.dsk 7
  have c6 : W.cell? ⟨dp, 6, none⟩ = some (.int .i64 d.fails) := blk_cell hD.dsk 6
  have z6 : W.frozen? ⟨dp, 6, none⟩ = false := blk_frozen hD.dsk 6
  have HD := Aside0.mk hD
  rcases hdn : d.down with _ | _
  · have hP : ∀ m : Int, 0 ≤ m → m ≤ 9223372036854775807 → ∃ S', Dk (W.setCell ⟨dp, 6, none⟩ (.int .i64 m)) S' dp { d with fails := m } ∧ Ext S W (W.setCell ⟨dp, 6, none⟩ (.int .i64 m)) S' := fun m h0 h1 =>
      lift hS hl (Below.refl _ _) (hD.upd (W' := W.setCell ⟨dp, 6, none⟩ (.int .i64 m)) (d' := { d with fails := m }) (blk_put hD.dsk 6 _ rfl) (fun k hk => Below.heap_setCell W ⟨dp, 6, none⟩ _ k hk) (by rw [World.size_setCell]; omega) rfl rfl rfl) (ext_set _ _ _ _ _ ft_dp) ⟨hok.room, hok.srt, hok.good, hok.seen, hok.used, hok.pos, ⟨h0, h1⟩⟩
    rw [hdn] at c7
    by_cases h0 : n < 0
    · have HE := Aside0.mk (show d.fail n = { d with fails := 0 } by simp [Ab.fail, hdn, h0])
      have HP := Aside0.mk (hP 0 (by omega) (by omega))
      have t1 : decide (n < 0) = true := decide_eq_true h0
      have t2 : decide (0 < n) = false := decide_eq_false (by omega)
      clear hD hok hS hl hP hdn
      go_enter Try.func19, Try.ntmps19
      go_wp2_with (first | (go_at_call 47; refine (made_calls HD.out).mono ?_; rintro e w2 ⟨rfl, hw⟩; obtain rfl := hw.symm) | fail)
      go_end0
      rw [HE.out]
      exact ⟨rfl, HP.out⟩
    · have HE := Aside0.mk (show d.fail n = { d with fails := n } by simp [Ab.fail, hdn, h0])
      have HP := Aside0.mk (hP n (by omega) hn)
      have t1 : decide (n < 0) = false := decide_eq_false h0
      have t3 : 0 ≤ n := by omega
      clear hD hok hS hl hP hdn
      go_enter Try.func19, Try.ntmps19
      go_wp2_with (first | (go_at_call 47; refine (made_calls HD.out).mono ?_; rintro e w2 ⟨rfl, hw⟩; obtain rfl := hw.symm) | fail)
      go_end0
      rw [HE.out]
      exact ⟨rfl, HP.out⟩
  · have HE := Aside0.mk (show d.fail n = d by simp [Ab.fail, hdn])
    rw [hdn] at c7
    clear hD hok hS hl hdn
    go_enter Try.func19, Try.ntmps19
    go_wp2_with (first | (go_at_call 47; refine (made_calls HD.out).mono ?_; rintro e w2 ⟨rfl, hw⟩; obtain rfl := hw.symm) | fail)
    go_end0
    rw [HE.out]
    exact ⟨rfl, keepE HK.out (Below.refl _ _)⟩
end
end Gd

namespace Gd
open Go.Proofs.Ytidijiijciokpaa.Blocks Frm
set_option maxRecDepth 100000
theorem own_at {W : World} {e : TypeId} {A : Option Addr} {n c : Nat} {ss : List Value} (h : W.ownsRow 0 e 1 (.slice A n c) ss.length ss) {i : Nat} {v : Value} (hv : ss[i]? = some v) : ∃ ad, A = some ad ∧ W.cell? (ad.add i) = some v := by
  rcases h.2 with ⟨h1, h2⟩ | ⟨g, cap, cur, h1, _⟩
  · have : ss = [] := List.eq_nil_of_length_eq_zero h2
    subst this
    cases hv
  · injection h1 with h1
    subst h1
    exact ⟨_, rfl, h.cells (g := g) rfl i v hv⟩
theorem pend_take {ss : List St} {i : Nat} {s : St} (h : ss[i]? = some s) : pend (ss.take (i + 1)) = pend (ss.take i) + s.count := by
  obtain ⟨hi, he⟩ := List.getElem?_eq_some_iff.1 h
  rw [List.take_succ_eq_append_getElem hi, he]
  simp [pend]
theorem pend_le (ss : List St) (i : Nat) : pend (ss.take i) ≤ pend ss := by
  have h : pend ss = pend (ss.take i) + pend (ss.drop i) := by
    unfold pend
    rw [← List.sum_append, ← List.map_append, List.take_append_drop]
  omega
section
variable {W : World} {S : Nat → Prop} {dp : Nat} {d : Ab}
set_option maxHeartbeats 1000000 in
theorem pending_calls (h : Dk W S dp d) (hb : d.Bd) : Calls Try.prog 13 #[.pointer (some ⟨dp, 0, none⟩)] W fun e w => e = .returned (.int .i64 (pend d.steps : Int)) ∧ Below W.heap.size W w := by
  obtain ⟨R, mp, lp, sv, ss, hD, hok, hS, hl⟩ := h
  obtain ⟨A, c, rfl, hcc⟩ := own_form hD.own
  have c3 : W.cell? ⟨dp, 3, none⟩ = some (.slice A ss.length c) := blk_cell hD.dsk 3
  have HD := Aside0.mk hD
  have HL := Aside0.mk (And.intro hD.sts.len hb)
  clear hD hok hS hl hb hcc
  go_enter Try.func13, Try.ntmps13
  go_wp2_with (first | (go_at_call 47; refine (made_calls HD.out).mono ?_; rintro e w2 ⟨rfl, hw⟩; obtain rfl := hw.symm) | fail)
  go_loopw [3, 13] (fun v i wr => ∃ k : Nat, i = .int .i64 (k : Int) ∧ v = .int .i64 (pend (d.steps.take k) : Int) ∧ Aside0 (k ≤ ss.length ∧ Below W.heap.size W wr)) (fun _ i _ => ss.length - (intOf i).toNat)
  case atStart => exact ⟨0, rfl, rfl, ⟨Nat.zero_le _, Below.refl _ _⟩⟩
  case round =>
    obtain ⟨k, rfl, rfl, HK⟩ := hrel
    by_cases hlt : k < ss.length
    · have HDr := Aside0.mk (HD.out.below HK.out.2)
      obtain ⟨v, s, hv, hs, hst⟩ := HDr.out.sts.at (i := k) (by rw [← HL.out.1]; exact hlt)
      obtain ⟨T, x, fid, rfl, hme, hen, hC⟩ := hst.meth
      obtain ⟨ad, hA, hcell⟩ := own_at HDr.out.own hv
      subst hA
      have HC := Aside0.mk hC
      have hp := pend_take hs
      have hp2 := pend_le d.steps (k + 1)
      have hb := HL.out.2
      have hb3 := hb.2.2
      have hb2 := hb.2.1
      have hln := HL.out.1
      have b1 : -9223372036854775808 ≤ (pend (d.steps.take k) : Int) + (s.count : Int) ∧ (pend (d.steps.take k) : Int) + (s.count : Int) ≤ 9223372036854775807 := by omega
      have b2 : -9223372036854775808 ≤ (k : Int) + 1 ∧ (k : Int) + 1 ≤ 9223372036854775807 := by omega
      have hki : (k : Int) < (ss.length : Int) := by omega
      have HPP := Aside0.mk hp
      have w1 := i64_of b1
      have w2_ := i64_of b2
      clear b1 b2 hb hb2 hb3 hp2 hp hln hC hs hv hst
      go_wp2_with (first
        | ((with_reducible refine (HC.out _).mono ?_); rintro e w5 ⟨rfl, hb5⟩; (have HB5 := Aside0.mk (HK.out.2.trans (below_w hb5 HK.out.2.size))); clear hb5)
        | fail)
      go_roundw
      case rel => exact ⟨k + 1, by push_cast; rfl, by rw [HPP.out]; push_cast; rfl, ⟨by omega, HB5.out⟩⟩
      case measure => simp [intOf]; omega
    · have hk : k = ss.length := by have := HK.out.1; omega
      subst hk
      have HE := Aside0.mk (show pend (d.steps.take ss.length) = pend d.steps by rw [HL.out.1, List.take_length])
      go_wp2
      go_ret
      exact ⟨ret_nat HE.out, HK.out.2⟩
end
end Gd

namespace Gd
open Go.Proofs.Ytidijiijciokpaa.Blocks Frm
set_option maxRecDepth 100000
theorem bytes_le {f : Fs} {s : St} (h : Srt f) (ho : okSt f s) : s.bytes ≤ taken (doAll f s) := by
  cases s with
  | laid n b =>
    have := taken_laid (b := b) h ho
    show b.size ≤ _
    omega
  | created n => exact Nat.zero_le _
  | cut n k => exact Nat.zero_le _
  | renamed a b => exact Nat.zero_le _
  | removed n => exact Nat.zero_le _
theorem drop_at {ss : List St} {i : Nat} {s : St} (h : ss[i]? = some s) : ss.drop i = s :: ss.drop (i + 1) := by
  obtain ⟨hi, he⟩ := List.getElem?_eq_some_iff.1 h
  rw [List.drop_eq_getElem_cons hi, he]
/-- Under way to what is left. -/
structure Lf (W wr : World) (out : Nat) (room : Nat) (target : Fs) (steps : List St) (i : Nat) (kp : Int) (cur : Fs) (R2 : Nat → Prop) : Prop where
  map : Fm wr R2 out cur
  new : ∀ k, R2 k → W.heap.size ≤ k ∧ k ≠ out ∧ k < wr.heap.size
  bel : Below W.heap.size W wr
  tgt : remn cur (steps.drop i) kp.toNat = target
  ok : kp ≤ 0 ∨ good room cur (steps.drop i)
  lo : -9223372036854775808 ≤ kp
  hi : kp ≤ 9223372036854775807
  len : i ≤ steps.length
theorem Lf.step {W wr w5 w6 : World} {out room i : Nat} {target cur : Fs} {steps : List St} {kp : Int} {R2 R3 : Nat → Prop} (h : Lf W wr out room target steps i kp cur R2) (ho : W.heap.size ≤ out) {s : St} (hs : steps[i]? = some s) (hkp : 0 < kp) (hb5 : Below wr.heap.size wr w5) {n : Nat} (hn : (n : Int) = if (s.count : Int) < kp then (s.count : Int) else kp) (hf : Fm w6 R3 out (doSt cur s n)) (hc : Chg w5 w6 R2 R3 out) : Lf W w6 out room target steps (i + 1) (kp - n) (doSt cur s n) R3 := by
  have hlt := h.map.lt
  have hd := drop_at hs
  have hg : good room cur (s :: steps.drop (i + 1)) := by
    rw [← hd]
    rcases h.ok with q | q
    · omega
    · exact q
  have ht := h.tgt
  rw [hd] at ht
  have hm : n = min kp.toNat s.count := by
    split at hn <;> omega
  have h1 := h.bel.size
  have h2 := hb5.size
  refine ⟨hf, fun k q => ?_, ⟨hc.but.os.trans (hb5.os.trans h.bel.os), hc.but.tape.trans (hb5.tape.trans h.bel.tape), hc.but.output.trans (hb5.output.trans h.bel.output), Nat.le_trans h1 (Nat.le_trans h2 hc.but.size), fun k hk => ?_⟩, ?_, ?_, ?_, ?_, ?_⟩
  · have q3 := hc.lt k q
    rcases hc.new k q with q | q
    · have := h.new k q
      omega
    · omega
  · exact (hc.but.block k (by omega) (by omega)).trans ((hb5.block k (by omega)).trans (h.bel.block k hk))
  · rw [← ht]
    show _ = if kp.toNat = 0 then cur else remn (doSt cur s (min kp.toNat s.count)) (steps.drop (i + 1)) (kp.toNat - min kp.toNat s.count)
    rw [if_neg (by omega), ← hm]
    congr 1
    omega
  · by_cases hq : (s.count : Int) < kp
    · right
      have : n = s.count := by rw [if_pos hq] at hn; omega
      rw [this]
      exact hg.2.2
    · rw [if_neg hq] at hn
      left
      omega
  · split at hn <;> omega
  · have := h.hi
    omega
  · exact (List.getElem?_eq_some_iff.1 hs).1
section
variable {W : World} {R : Nat → Prop} {dp mp lp : Nat} {sv : Value} {ss : List Value} {d : Ab}
set_option maxHeartbeats 2000000 in
theorem left_calls (h : Dm W R dp mp lp sv ss d) (hok : d.Ok) (hlen : d.steps.length ≤ 4398046511104) (keep : Int) (h0 : -9223372036854775808 ≤ keep) (h1 : keep ≤ 9223372036854775807) : Calls Try.prog 48 #[.pointer (some ⟨dp, 0, none⟩), .int .i64 keep] W fun e w => ∃ out R2, e = .returned (.map (some out)) ∧ Fm w R2 out (remn d.lasts d.steps keep.toNat) ∧ (∀ k, R2 k → W.heap.size ≤ k ∧ k ≠ out ∧ k < w.heap.size) ∧ W.heap.size ≤ out ∧ Below W.heap.size W w := by
  obtain ⟨A, c, rfl, hcc⟩ := own_form h.own
  have c2 : W.cell? ⟨dp, 2, none⟩ = some (.map (some lp)) := blk_cell h.dsk 2
  have HD := Aside0.mk h
  have hgl := good_head hok.good
  have hrm := hok.room
  have HL := Aside0.mk (And.intro h.sts.len (And.intro hok (And.intro hlen (And.intro h0 (And.intro h1 (show taken d.lasts ≤ 1099511627776 by omega))))))
  clear h hok hlen h0 h1 hcc hgl hrm
  go_enter Try.func48, Try.ntmps48
  go_wp2_with (first
    | (go_at_call 54; refine (copied_calls HD.out.lasts HD.out.rlt HL.out.2.2.2.2.2).mono ?_; rintro r w1 ⟨out, R2, rfl, hf, hr2, hoo, hb⟩; (have HO := Aside0.mk hoo); (have HLF := Aside0.mk (show Lf W w1 out d.room (remn d.lasts d.steps keep.toNat) d.steps 0 keep d.lasts R2 from ⟨hf, hr2, hb, rfl, .inr HL.out.2.1.good, HL.out.2.2.2.1, HL.out.2.2.2.2.1, Nat.zero_le _⟩)); (have HD1 := Aside0.mk (HD.out.below hb)); (have c3 : w1.cell? ⟨dp, 3, none⟩ = some (.slice A ss.length c) := blk_cell HD1.out.dsk 3); clear hf hr2 hoo hb)
    | fail)
  go_loopw [1, 19] (fun v i wr => ∃ (k : Nat) (kp : Int) (cur : Fs) (R2 : Nat → Prop), i = .int .i64 (k : Int) ∧ v = .int .i64 kp ∧ Aside0 (Lf W wr out d.room (remn d.lasts d.steps keep.toNat) d.steps k kp cur R2)) (fun _ i _ => ss.length - (intOf i).toNat)
  case atStart => exact ⟨0, keep, d.lasts, R2, rfl, rfl, HLF⟩
  case round =>
    obtain ⟨k, kp, cur, R3, rfl, rfl, HK⟩ := hrel
    clear HLF c3 HD1
    by_cases hlt : k < ss.length
    · have hks : k < d.steps.length := by rw [← HL.out.1]; exact hlt
      have HDr := Aside0.mk (HD.out.below HK.out.bel)
      obtain ⟨v, s, hv, hs, hst⟩ := HDr.out.sts.at (i := k) hks
      obtain ⟨T, x, fid, rfl, hme, hen, hC⟩ := hst.meth
      obtain ⟨ad, hA, hcell⟩ := own_at HDr.out.own hv
      subst hA
      have hki : (k : Int) < (ss.length : Int) := by omega
      by_cases hkp : kp ≤ 0
      · have hkd : decide (kp ≤ 0) = true := decide_eq_true hkp
        have HE := Aside0.mk (show cur = remn d.lasts d.steps keep.toNat by
          rw [← HK.out.tgt, drop_at hs]
          show cur = if kp.toNat = 0 then cur else _
          rw [if_pos (by omega)])
        clear hC hs hv hst hkp hks hme hen
        go_wp2
        go_ret
        refine ⟨out, R3, rfl, HE.out ▸ HK.out.map, HK.out.new, HO.out, HK.out.bel⟩
      · have hkd : decide (kp ≤ 0) = false := decide_eq_false hkp
        have hkd2 : 0 < kp := by omega
        have HC := Aside0.mk hC
        have HS := Aside0.mk hs
        have HST := Aside0.mk hst
        have hg : good d.room cur (s :: d.steps.drop (k + 1)) := by
          rw [← drop_at hs]
          rcases HK.out.ok with q | q
          · omega
          · exact q
        have hb1 := good_head hg.2.2
        have hb2 := bytes_le HK.out.map.srt hg.2.1
        have hb3 := hg.1
        have hrm := HL.out.2.1.room
        have HG := Aside0.mk (And.intro hg.2.1 (show taken cur + s.bytes ≤ 1099511627776 by omega))
        have b2 : -9223372036854775808 ≤ (k : Int) + 1 ∧ (k : Int) + 1 ≤ 9223372036854775807 := by have := HL.out.2.2.1; omega
        have hhi := HK.out.hi
        by_cases q : (s.count : Int) < kp
        · have hn2 : ((s.count : Nat) : Int) = if (s.count : Int) < kp then (s.count : Int) else kp := by rw [if_pos q]
          have HN := Aside0.mk (Nat.le_refl s.count)
          have HNN := Aside0.mk hn2
          have q1 : decide ((s.count : Int) < kp) = true := decide_eq_true q
          have q2 : decide (kp < (s.count : Int)) = false := decide_eq_false (by omega)
          have q3 : decide (kp ≤ (s.count : Int)) = false := decide_eq_false (by omega)
          have b3 : -9223372036854775808 ≤ kp - (s.count : Int) ∧ kp - (s.count : Int) ≤ 9223372036854775807 := by omega
          have HKP := Aside0.mk hkd2
          have HDC := Aside0.mk (fun (w5 : World) (hb5 : Below wr.heap.size wr w5) => do_calls (HK.out.map.below hb5) (fun k q => Nat.lt_of_lt_of_le (HK.out.new k q).2.2 hb5.size) (fun q => (HK.out.new _ q).2.1 rfl) (HST.out.keep (W' := w5) (fun k _ hl => hb5.block k hl) (fun _ q => q)) s.count HN.out HG.out.1 HG.out.2)
          have w2_ := i64_of b2
          have w3_ := i64_of b3
          clear hC hs hv hst hks b2 b3 hg hb1 hb2 hb3 hrm hhi hkp hn2
          go_wp2_with (first
            | ((with_reducible refine (HC.out _).mono ?_); rintro e w5 ⟨rfl, hb5⟩; (have HB5 := Aside0.mk hb5); clear hb5)
            | (go_at_call 92; with_reducible refine (HDC.out _ HB5.out).mono ?_; rintro e w6 ⟨rfl, R4, hf6, hc6⟩; (have HK6 := Aside0.mk (HK.out.step HO.out HS.out HKP.out HB5.out HNN.out hf6 hc6)); clear hf6 hc6)
            | fail)
          go_roundw
          case rel => exact ⟨k + 1, _, _, _, by push_cast; rfl, rfl, HK6⟩
          case measure => simp [intOf]; omega
        · obtain ⟨n, rfl⟩ : ∃ n : Nat, kp = (n : Int) := ⟨kp.toNat, by omega⟩
          have hn2 : ((n : Nat) : Int) = if (s.count : Int) < (n : Int) then (s.count : Int) else (n : Int) := by rw [if_neg q]
          have HN := Aside0.mk (show n ≤ s.count by omega)
          have HNN := Aside0.mk hn2
          have q1 : decide ((s.count : Int) < (n : Int)) = false := decide_eq_false q
          have q1n : decide (s.count < n) = false := decide_eq_false (by omega)
          have qi : (if s.count < n then ((s.count : Nat) : Int) else (n : Int)) = (n : Int) := if_neg (by omega)
          have b3 : -9223372036854775808 ≤ (n : Int) - (n : Int) ∧ (n : Int) - (n : Int) ≤ 9223372036854775807 := by omega
          clear q
          have HKP := Aside0.mk hkd2
          have HDC := Aside0.mk (fun (w5 : World) (hb5 : Below wr.heap.size wr w5) => do_calls (HK.out.map.below hb5) (fun k q => Nat.lt_of_lt_of_le (HK.out.new k q).2.2 hb5.size) (fun q => (HK.out.new _ q).2.1 rfl) (HST.out.keep (W' := w5) (fun k _ hl => hb5.block k hl) (fun _ q => q)) n HN.out HG.out.1 HG.out.2)
          have w2_ := i64_of b2
          have w3_ := i64_of b3
          clear hC hs hv hst hks b2 b3 hg hb1 hb2 hb3 hrm hhi hkp hn2
          go_wp2_with (first
            | ((with_reducible refine (HC.out _).mono ?_); rintro e w5 ⟨rfl, hb5⟩; (have HB5 := Aside0.mk hb5); clear hb5)
            | (go_at_call 92; with_reducible refine (HDC.out _ HB5.out).mono ?_; rintro e w6 ⟨rfl, R4, hf6, hc6⟩; (have HK6 := Aside0.mk (HK.out.step HO.out HS.out HKP.out HB5.out HNN.out hf6 hc6)); clear hf6 hc6)
            | fail)
          go_roundw
          case rel => exact ⟨k + 1, _, _, _, by push_cast; rfl, rfl, ⟨(Int.sub_self (n : Int)) ▸ HK6.out⟩⟩
          case measure => simp [intOf]; omega
    · have hk : k = ss.length := by have := HK.out.len; have := HL.out.1; omega
      subst hk
      have HE := Aside0.mk (show cur = remn d.lasts d.steps keep.toNat by
        rw [← HK.out.tgt, HL.out.1, List.drop_length]
        rfl)
      go_wp2
      go_ret
      exact ⟨out, R3, rfl, HE.out ▸ HK.out.map, HK.out.new, HO.out, HK.out.bel⟩
end
end Gd

namespace Gd
open Go.Proofs.Ytidijiijciokpaa.Blocks Frm
set_option maxRecDepth 100000
theorem srt_remn : ∀ {ss : List St} {f : Fs} (k : Nat), Srt f → Srt (remn f ss k)
  | [], _, _, h => h
  | s :: ss, f, k, h => by
    unfold remn
    split
    · exact h
    · exact srt_remn (ss := ss) _ (srt_do h s _)
theorem taken_part {f : Fs} {s : St} {k : Nat} (h : Srt f) (ho : okSt f s) (hk : k ≤ s.count) (hk0 : 0 < k) : taken (doSt f s k) ≤ taken (doAll f s) := by
  cases s with
  | laid n b =>
    obtain ⟨d, hd⟩ := Option.ne_none_iff_exists'.1 ho
    show taken (put f n (apB (dat f n) (cutB b k))) ≤ taken (put f n (apB (dat f n) (cutB b b.size)))
    rw [taken_put _ _ h, taken_put _ _ h, apB_size, apB_size, cutB_size, cutB_size]
    omega
  | created n => exact Nat.le_refl _
  | cut n c => exact Nat.le_refl _
  | renamed a b => exact Nat.le_refl _
  | removed n => exact Nat.le_refl _
theorem remn_zero (f : Fs) : ∀ ss : List St, remn f ss 0 = f
  | [] => rfl
  | s :: ss => by
    unfold remn
    rw [if_pos rfl]
theorem taken_remn {room : Nat} : ∀ {ss : List St} {f : Fs} (k : Nat), Srt f → good room f ss → taken (remn f ss k) ≤ room
  | [], _, _, _, g => g
  | s :: ss, f, k, h, g => by
    unfold remn
    split
    · exact g.1
    · by_cases q : s.count ≤ k
      · rw [Nat.min_eq_right q]
        exact taken_remn (ss := ss) _ (srt_do h s _) g.2.2
      · rw [Nat.min_eq_left (by omega), Nat.sub_self, remn_zero]
        exact Nat.le_trans (taken_part h g.2.1 (by omega) (by omega)) (good_head g.2.2)
def Ab.left (d : Ab) (k : Int) : Fs := remn d.lasts d.steps k.toNat
def Ab.crash (d : Ab) (k : Int) : Ab := if d.down then d else { room := d.room, seen := d.left k, lasts := d.left k, steps := [], used := taken (d.left k), acts := d.acts, fails := 0, down := true }
theorem Ab.crash_ok {d : Ab} (h : d.Ok) (k : Int) : (d.crash k).Ok := by
  unfold Ab.crash
  split
  · exact h
  · exact ⟨h.room, srt_remn _ h.srt, taken_remn _ h.srt h.good, rfl, rfl, (by intro s hs; cases hs), ⟨by show (0 : Int) ≤ 0; omega, by show (0 : Int) ≤ _; omega⟩⟩
theorem Dm.reseen {W W' : World} {R R2 : Nat → Prop} {dp mp lp out : Nat} {sv : Value} {ss : List Value} {d : Ab} (h : Dm W R dp mp lp sv ss d) {f : Fs} (hB : Below W.heap.size W W') (hf : Fm W' R2 out f) (h2 : ∀ k, R2 k → W.heap.size ≤ k ∧ k ≠ out ∧ k < W'.heap.size) (ho : W.heap.size ≤ out) :
    Dm (W'.setCell ⟨dp, 1, none⟩ (.map (some out))) (fun k => R k ∨ R2 k) dp out lp sv ss { d with seen := f } ∧ Ext (Ft R dp mp lp sv) W (W'.setCell ⟨dp, 1, none⟩ (.map (some out))) (Ft (fun k => R k ∨ R2 k) dp out lp sv) := by
  have h1 := h.below hB
  have hdl := blk_lt h.dsk
  have hll := h.lasts.lt
  have hk : ∀ k, k ≠ dp → (W'.setCell ⟨dp, 1, none⟩ (.map (some out))).heap[k]? = W'.heap[k]? := fun k hk => Below.heap_setCell W' ⟨dp, 1, none⟩ _ k hk
  have hs : (W'.setCell ⟨dp, 1, none⟩ (.map (some out))).heap.size = W'.heap.size := by rw [World.size_setCell]
  have hsz := hB.size
  refine ⟨⟨blk_put h1.dsk 1 (.map (some out)) rfl, ?_, ?_, by omega, own_move h1.own fun k q => hk k (h1.ns k q).1, h1.sts.keep (fun k q _ => hk k fun e => h.rdp (e ▸ q)) fun _ q => .inl q, fun k q => ?_, fun q => ?_, fun q => ?_, fun q => ?_, fun g hg q => ?_⟩, hB.os, hB.tape, hB.output, by rw [hs]; exact hsz, fun k hkl hn => (hk k (fun e => hn (e ▸ ft_dp))).trans (hB.block k hkl), fun k q => ?_⟩
  · exact hf.keep (hk out (by omega)) (fun k q _ => hk k (by have := h2 k q; omega)) fun _ q => .inr q
  · exact h1.lasts.keep (hk lp h.nd2) (fun k q _ => hk k fun e => h.rdp (e ▸ q)) fun _ q => .inl q
  · rw [hs]
    rcases q with q | q
    · exact h1.rlt k q
    · exact (h2 k q).2.2
  · rcases q with q | q
    · exact h.rdp q
    · have := h2 _ q; omega
  · rcases q with q | q
    · have := h.rlt _ q; omega
    · exact (h2 _ q).2.1 rfl
  · rcases q with q | q
    · exact h.rlp q
    · have := h2 _ q; omega
  · have hg2 := h.flt g (.inr (.inr (.inr (.inr hg))))
    rcases q with q | q
    · exact h.rsv g hg q
    · have := h2 _ q; omega
  · rcases q with (q | q) | q | q | q | q
    · exact .inl (.inl q)
    · exact .inr (h2 k q).1
    · exact .inl (.inr (.inl q))
    · exact .inr (by omega)
    · exact .inl (.inr (.inr (.inr (.inl q))))
    · exact .inl (.inr (.inr (.inr (.inr q))))
section
variable {W : World} {S : Nat → Prop} {dp : Nat} {d : Ab}
set_option maxHeartbeats 2000000 in
theorem crash_calls (h : Dk W S dp d) (hlen : d.steps.length ≤ 4398046511104) (k : Int) (h0 : -9223372036854775808 ≤ k) (h1 : k ≤ 9223372036854775807) : Calls Try.prog 21 #[.pointer (some ⟨dp, 0, none⟩), .int .i64 k] W fun e w => e = .returned (.tuple #[]) ∧ ∃ S', Dk w S' dp (d.crash k) ∧ Ext S W w S' := by
  have HK := Aside0.mk h
  have HCO := Aside0.mk (Ab.crash_ok h.ok k)
  obtain ⟨R, mp, lp, sv, ss, hD, hok, hS, hl⟩ := h
  have c7 : W.cell? ⟨dp, 7, none⟩ = some (.bool d.down) := blk_cell hD.dsk 7
  have HD := Aside0.mk hD
  rcases hdn : d.down with _ | _
  · have hE := Aside0.mk (show d.crash k = { room := d.room, seen := d.left k, lasts := d.left k, steps := [], used := taken (d.left k), acts := d.acts, fails := 0, down := true } by simp [Ab.crash, hdn])
    have htk := taken_remn k.toNat hok.srt hok.good
    have hrm := hok.room
    have HQ := Aside0.mk (And.intro hok (And.intro hS (And.intro hl (And.intro hlen (And.intro h0 (And.intro h1 (show taken (d.left k) ≤ 1099511627776 by unfold Ab.left; omega)))))))
    rw [hdn] at c7
    clear hD hok hS hl hlen h0 h1 hdn htk hrm
    go_enter Try.func21, Try.ntmps21
    go_upto_region 2 with (first
      | (go_at_call 47; refine (made_calls HD.out).mono ?_; rintro e w2 ⟨rfl, hw⟩; obtain rfl := hw.symm)
      | (go_at_call 48; refine (left_calls HD.out HQ.out.1 HQ.out.2.2.2.1 k HQ.out.2.2.2.2.1 HQ.out.2.2.2.2.2.1).mono ?_; rintro e w1 ⟨out, R2, rfl, hf1, hr1, ho1, hb1⟩; (have HR1 := Aside0.mk (HD.out.reseen hb1 hf1 hr1 ho1)); (have HDx := Aside0.mk (HD.out.below hb1)); clear hf1 hr1 ho1 hb1; (have k1 : w1.cell? ⟨dp, 1, none⟩ = some (.map (some mp)) := blk_cell HDx.out.dsk 1); (have f1 : w1.frozen? ⟨dp, 1, none⟩ = false := blk_frozen HDx.out.dsk 1))
      | fail)
    have HD2 := Aside0.mk HR1.out.1
    have HX2 := Aside0.mk HR1.out.2
    clear HR1 HDx k1 f1
    generalize w1.setCell ⟨dp, 1, none⟩ (.map (some out)) = w2 at HD2 HX2 ⊢
    have c1 : w2.cell? ⟨dp, 1, none⟩ = some (.map (some out)) := blk_cell HD2.out.dsk 1
    go_upto_region 3 with (first
      | (go_at_call 54; refine (copied_calls HD2.out.seen HD2.out.rlt HQ.out.2.2.2.2.2.2).mono ?_; rintro e w3 ⟨out2, R3, rfl, hf3, hr3, ho3, hb3⟩; (have HR3 := Aside0.mk (HD2.out.relast hb3 hf3 hr3 ho3)); (have HDx := Aside0.mk (HD2.out.below hb3)); clear hf3 hr3 ho3 hb3; (have k2 : w3.cell? ⟨dp, 2, none⟩ = some (.map (some lp)) := blk_cell HDx.out.dsk 2); (have k3 : w3.cell? ⟨dp, 3, none⟩ = some sv := blk_cell HDx.out.dsk 3); (have k6 : w3.cell? ⟨dp, 6, none⟩ = some (.int .i64 d.fails) := blk_cell HDx.out.dsk 6); (have k7 : w3.cell? ⟨dp, 7, none⟩ = some (.bool d.down) := blk_cell HDx.out.dsk 7); (have f2 : w3.frozen? ⟨dp, 2, none⟩ = false := blk_frozen HDx.out.dsk 2); (have f3 : w3.frozen? ⟨dp, 3, none⟩ = false := blk_frozen HDx.out.dsk 3); (have f6 : w3.frozen? ⟨dp, 6, none⟩ = false := blk_frozen HDx.out.dsk 6); (have f7 : w3.frozen? ⟨dp, 7, none⟩ = false := blk_frozen HDx.out.dsk 7))
      | fail)
    have HD4 := Aside0.mk ((HR3.out.1.upd (W' := (((w3.setCell ⟨dp, 2, none⟩ (.map (some out2))).setCell ⟨dp, 3, none⟩ (.slice none 0 0)).setCell ⟨dp, 6, none⟩ (.int .i64 0))) (d' := { room := d.room, seen := d.left k, lasts := d.left k, steps := [], used := d.used, acts := d.acts, fails := 0, down := d.down }) (blk_put HR3.out.1.dsk 6 _ rfl) (fun k hk => Below.heap_setCell _ ⟨dp, 6, none⟩ _ k hk) (by simp only [World.size_setCell]; omega) rfl rfl rfl))
    have HD5 := Aside0.mk ((HD4.out.upd (W' := ((((w3.setCell ⟨dp, 2, none⟩ (.map (some out2))).setCell ⟨dp, 3, none⟩ (.slice none 0 0)).setCell ⟨dp, 6, none⟩ (.int .i64 0)).setCell ⟨dp, 7, none⟩ (.bool true))) (d' := { room := d.room, seen := d.left k, lasts := d.left k, steps := [], used := d.used, acts := d.acts, fails := 0, down := true }) (blk_put HD4.out.dsk 7 _ rfl) (fun k hk => Below.heap_setCell _ ⟨dp, 7, none⟩ _ k hk) (by simp only [World.size_setCell]; omega) rfl rfl rfl))
    have HX5 := Aside0.mk (((HX2.out.trans HR3.out.2).trans (ext_set _ _ dp 6 (.int .i64 0) ft_dp)).trans (ext_set _ _ dp 7 (.bool true) ft_dp))
    clear HR3 HDx k2 k3 k6 k7 f2 f3 f6 f7 HD4 HD2 HX2
    generalize (((w3.setCell ⟨dp, 2, none⟩ (.map (some out2))).setCell ⟨dp, 3, none⟩ (.slice none 0 0)).setCell ⟨dp, 6, none⟩ (.int .i64 0)).setCell ⟨dp, 7, none⟩ (.bool true) = w5 at HD5 HX5 ⊢
    have c1 : w5.cell? ⟨dp, 1, none⟩ = some (.map (some out)) := blk_cell HD5.out.dsk 1
    go_wp2_with (first
      | (go_at_call 55; refine (takes_calls HD5.out.seen HD5.out.rlt HQ.out.2.2.2.2.2.2).mono ?_; rintro e w8 ⟨rfl, hb8⟩; (have HD8 := Aside0.mk (HD5.out.below hb8)); (have HX8 := Aside0.mk (HX5.out.trans (Ext.of hb8))); (have k4 : w8.cell? ⟨dp, 4, none⟩ = some (.int .i64 (d.used : Int)) := blk_cell HD8.out.dsk 4); (have f4 : w8.frozen? ⟨dp, 4, none⟩ = false := blk_frozen HD8.out.dsk 4); clear hb8)
      | fail)
    go_end0
    rw [hE.out]
    have hco := HCO.out
    rw [hE.out] at hco
    exact ⟨rfl, lift HQ.out.2.1 HQ.out.2.2.1 (Below.refl _ _) (HD8.out.used (taken (d.left k))) (HX8.out.trans (ext_set _ _ _ _ _ ft_dp)) hco⟩
  · have HE := Aside0.mk (show d.crash k = d by simp [Ab.crash, hdn])
    rw [hdn] at c7
    clear hD hok hS hl hdn
    go_enter Try.func21, Try.ntmps21
    go_wp2_with (first | (go_at_call 47; refine (made_calls HD.out).mono ?_; rintro e w2 ⟨rfl, hw⟩; obtain rfl := hw.symm) | fail)
    refine bodyPost_ret (results_none rfl _ _ _) rfl ?_
    rw [HE.out]
    exact ⟨rfl, keepE HK.out (Below.refl _ _)⟩
end
end Gd

namespace Gd
open Go.Proofs.Ytidijiijciokpaa.Blocks Frm
set_option maxRecDepth 100000
/-- Files laid into an empty disk, one behind the other. -/
def newF (room : Nat) : Fs → Fs → Option Fs × Int
  | f, [] => (some f, 0)
  | f, (n, b) :: r => if isNm n = false then (none, 120) else if (get f n).isSome then (none, 122) else if room < taken f + n.size + b.size then (none, 123) else newF room (put f n b) r
/-- Files in a row at block g. -/
def Fl (W : World) (Q : Nat → Prop) (g : Nat) (l : Fs) : Prop := ∀ i n d, l[i]? = some (n, d) → ∃ v, Rw W Q v d ∧ W.rangeAt g (i * 2) [.string n, v]
/-- A disk under way. -/
structure Nw (W wr : World) (dp mp : Nat) (room : Nat) (R2 : Nat → Prop) (f : Fs) (used : Nat) : Prop where
  blk : wr.heap[dp]? = some (.cells #[.int .i64 (room : Int), .map (some mp), .map none, .slice none 0 0, .int .i64 (used : Int), .int .i64 0, .int .i64 0, .bool false] 90 (0, 0))
  map : Fm wr R2 mp f
  new : ∀ k, R2 k → W.heap.size ≤ k ∧ k ≠ mp ∧ k ≠ dp ∧ k < wr.heap.size
  bel : Below W.heap.size W wr
  ne : mp ≠ dp
  gm : W.heap.size ≤ mp
  gd : W.heap.size ≤ dp
  le : taken f ≤ room
theorem Nw.below {W wr w : World} {dp mp room used : Nat} {R2 : Nat → Prop} {f : Fs} (h : Nw W wr dp mp room R2 f used) (hB : Below wr.heap.size wr w) : Nw W w dp mp room R2 f used :=
  ⟨blk_below h.blk hB, h.map.below hB, fun k q => by have := h.new k q; have := hB.size; omega, h.bel.trans (below_w hB h.bel.size), h.ne, h.gm, h.gd, h.le⟩
theorem Nw.use {W wr : World} {dp mp room used : Nat} {R2 : Nat → Prop} {f : Fs} (h : Nw W wr dp mp room R2 f used) (n : Nat) : Nw W (wr.setCell ⟨dp, 4, none⟩ (.int .i64 (n : Int))) dp mp room R2 f n :=
  ⟨blk_put h.blk 4 _ rfl, h.map.keep (Below.heap_setCell wr ⟨dp, 4, none⟩ _ mp h.ne) (fun k q _ => Below.heap_setCell wr ⟨dp, 4, none⟩ _ k (h.new k q).2.2.1) fun _ q => q, fun k q => by rw [World.size_setCell]; exact h.new k q, h.bel.setCell h.gd _, h.ne, h.gm, h.gd, h.le⟩
theorem Nw.store {W wr w3 : World} {dp mp room used : Nat} {R2 : Nat → Prop} {f : Fs} (h : Nw W wr dp mp room R2 f used) (hB : Below wr.heap.size wr w3) {n d : ByteArray} {v : Value} (hv : w3.ownsRow wr.heap.size 5 1 v d.size (nums .u8 (bytesOf d))) (hle : taken (put f n d) ≤ room) :
    ∃ es m, (Instr.mapUpdate 87 (.map (some mp)) (.string n) v).run Try.prog w3 = .ok () { w3 with heap := w3.heap.setIfInBounds mp (.map es m) } ∧ ∃ R3, Nw W { w3 with heap := w3.heap.setIfInBounds mp (.map es m) } dp mp room R3 (put f n d) used := by
  have hb := h.bel.size
  have hlt := h.map.lt
  have hdl := blk_lt h.blk
  have h3 : Fm w3 (fun k => R2 k ∨ wr.heap.size ≤ k) mp f := (h.map.below hB).keep rfl (fun _ _ _ => rfl) fun _ q => .inl q
  obtain ⟨es, m, hrun, hf⟩ := h3.store (s := n) ((rw_own hv).grow fun k q => .inr q.1) (fun q => by
    rcases q with q | q
    · exact (h.new _ q).2.1 rfl
    · omega)
  refine ⟨es, m, hrun, _, (setMap_ne w3 mp _ (Ne.symm h.ne)).trans (blk_below h.blk hB), hf.bound, fun k q => ?_, ⟨hB.os.trans h.bel.os, hB.tape.trans h.bel.tape, hB.output.trans h.bel.output, ?_, fun k hk => ?_⟩, h.ne, h.gm, h.gd, hle⟩
  · have q2 := q.2
    rcases q.1 with q | q
    · have := h.new k q
      omega
    · omega
  · show W.heap.size ≤ (w3.heap.setIfInBounds mp _).size
    rw [Array.size_setIfInBounds]
    exact Nat.le_trans hb hB.size
  · have := h.gm
    exact (setMap_ne w3 mp _ (by omega)).trans ((hB.block k (by omega)).trans (h.bel.block k hk))
/-- A disk of these files. -/
def Ab.fresh (room : Nat) (f : Fs) : Ab := { room := room, seen := f, lasts := f, steps := [], used := taken f, acts := 0, fails := 0, down := false }
theorem Ab.fresh_ok {room : Nat} {f : Fs} (hr : room ≤ 67108864) (hs : Srt f) (hl : taken f ≤ room) : (Ab.fresh room f).Ok := ⟨hr, hs, hl, rfl, rfl, (by intro s h; cases h), ⟨by show (0 : Int) ≤ 0; omega, by show (0 : Int) ≤ _; omega⟩⟩
theorem Nw.done {W wr w2 : World} {dp mp room out : Nat} {R2 R3 : Nat → Prop} {f : Fs} (h : Nw W wr dp mp room R2 f (taken f)) (hB : Below wr.heap.size wr w2) (hf : Fm w2 R3 out f) (h3 : ∀ k, R3 k → wr.heap.size ≤ k ∧ k ≠ out ∧ k < w2.heap.size) (ho : wr.heap.size ≤ out) (hr : room ≤ 67108864) :
    ∃ S, Dk (w2.setCell ⟨dp, 2, none⟩ (.map (some out))) S dp (Ab.fresh room f) ∧ (∀ k, S k → W.heap.size ≤ k) ∧ Below W.heap.size W (w2.setCell ⟨dp, 2, none⟩ (.map (some out))) := by
  have h2 := h.below hB
  have hml := h.map.lt
  have hdl := blk_lt h.blk
  have hb := h.bel.size
  have hk : ∀ k, k ≠ dp → (w2.setCell ⟨dp, 2, none⟩ (.map (some out))).heap[k]? = w2.heap[k]? := fun k hk => Below.heap_setCell w2 ⟨dp, 2, none⟩ _ k hk
  have hs : (w2.setCell ⟨dp, 2, none⟩ (.map (some out))).heap.size = w2.heap.size := World.size_setCell _ _ _
  have hD : Dm (w2.setCell ⟨dp, 2, none⟩ (.map (some out))) (fun k => R2 k ∨ R3 k) dp mp out (.slice none 0 0) [] (Ab.fresh room f) := by
    refine ⟨blk_put h2.blk 2 _ rfl, h2.map.keep (hk mp h.ne) (fun k q _ => hk k (h.new k q).2.2.1) fun _ q => .inl q, hf.keep (hk out (by omega)) (fun k q _ => hk k (by have := h3 k q; omega)) fun _ q => .inr q, by omega, own_nil _, trivial, fun k q => ?_, fun q => ?_, fun q => ?_, fun q => ?_, fun g hg => by cases hg⟩
    · rw [hs]
      rcases q with q | q
      · exact (h2.new k q).2.2.2
      · exact (h3 k q).2.2
    · rcases q with q | q
      · exact (h.new _ q).2.2.1 rfl
      · have := h3 _ q; omega
    · rcases q with q | q
      · exact (h.new _ q).2.1 rfl
      · have := h3 _ q; omega
    · rcases q with q | q
      · have := h.new _ q; omega
      · exact (h3 _ q).2.1 rfl
  refine ⟨Ft (fun k => R2 k ∨ R3 k) dp mp out (.slice none 0 0), ⟨_, _, _, _, _, hD, Ab.fresh_ok hr h.map.srt h.le, fun k q => q, hD.flt⟩, fun k q => ?_, h2.bel.setCell h.gd _⟩
  rcases q with (q | q) | q | q | q | q
  · exact (h.new k q).1
  · have := h3 k q; omega
  · rw [q]; exact h.gd
  · rw [q]; exact h.gm
  · omega
  · cases q
end Gd

namespace Gd
open Go.Proofs.Ytidijiijciokpaa.Blocks Frm
set_option maxRecDepth 100000
theorem wpQuiet_lookup {P : Program} {ops : Array Oper} {C : World → Prop} {Q : Act → Prop} {a : Act} {o : Oper} {rest : List Oper} (hwt : Region.wanted o (yielded ops a.tmps) = true) (ty : TypeId) (m x : Operand) (c : Bool) (ho : o.op = .lookup ty m x c) (b : Nat) (s : ByteArray) (hm : a.eval m = .map (some b)) (hx : a.eval x = .string s) (v : Value)
    (hl : ∀ w, C w → (Instr.lookup ty (.map (some b)) (.string s) c).run P w = .ok v w) (h : wpQuiet P ops C Q rest (a.put o.dst v)) : wpQuiet P ops C Q (o :: rest) a := by
  rw [wpQuiet, if_pos hwt]
  refine ⟨v, fun w hw => ?_, h⟩
  unfold Oper.quietAt execOp
  simp only [ho, hm, hx]
  rw [Sem.run_bind, hl w hw]
  exact ⟨rfl, rfl⟩
theorem info_file : (Try.prog.info? 33).map (·.size) = some 2 := by kernel_rfl
set_option maxHeartbeats 4000000 in
theorem new_calls {W : World} (room : Int) (g c : Nat) (l : Fs) {Q : Nat → Prop} (hl : Fl W Q g l) (hlen : l.length ≤ 1099511627776) (hsz : ∀ p ∈ l, p.1.size ≤ 1099511627776 ∧ p.2.size ≤ 1099511627776) (h0 : 0 ≤ room) (h1 : room ≤ 67108864) (A : Option Addr) (hA : 0 < l.length → A = some ⟨g, 0, none⟩) : Calls Try.prog 23 #[.int .i64 room, .slice A l.length c] W fun e w =>
    (∃ dp S f, newF room.toNat [] l = (some f, 0) ∧ e = .returned (.tuple #[.pointer (some ⟨dp, 0, none⟩), .int .i64 0]) ∧ Dk w S dp (Ab.fresh room.toNat f) ∧ (∀ k, S k → W.heap.size ≤ k) ∧ Below W.heap.size W w) ∨
    (∃ x, newF room.toNat [] l = (none, x) ∧ e = .returned (.tuple #[.pointer none, .int .i64 x]) ∧ Below W.heap.size W w) := by
  have hmm := fun t w => run_makeMap (P := Try.prog) t w
  obtain ⟨rm, rfl⟩ : ∃ rm : Nat, room = (rm : Int) := ⟨room.toNat, by omega⟩
  have b1 : decide ((rm : Int) < 0) = false := decide_eq_false (by omega)
  have b2 : decide ((67108864 : Int) < (rm : Int)) = false := decide_eq_false (by omega)
  have HL := Aside0.mk (And.intro hl (And.intro hlen (And.intro hsz (show rm ≤ 67108864 by omega))))
  rw [Int.toNat_natCast]
  clear h0 h1 hl hlen hsz
  go_enter Try.func23, Try.ntmps23
  go_wp2
  have HN := Aside0.mk (show Nw W ((W.alloc (Obj.map #[] 0)).alloc (Obj.cells #[Value.int IntKind.i64 (rm : Int), Value.map (some W.heap.size), Value.map none, Value.slice none 0 0, Value.int IntKind.i64 0, Value.int IntKind.i64 0, Value.int IntKind.i64 0, Value.bool false] 90)) (W.heap.size + 1) W.heap.size rm (fun _ => False) [] 0 from
    ⟨by
      have := heap_alloc_new (W.alloc (Obj.map #[] 0)) (Obj.cells #[Value.int IntKind.i64 (rm : Int), Value.map (some W.heap.size), Value.map none, Value.slice none 0 0, Value.int IntKind.i64 0, Value.int IntKind.i64 0, Value.int IntKind.i64 0, Value.bool false] 90)
      rwa [World.size_alloc] at this, Fm.new _ _ 0 ((Below.heap_alloc _ _ _ (by rw [World.size_alloc]; omega)).trans (heap_alloc_new _ _)), fun _ q => q.elim, ((Below.refl _ _).alloc (Nat.le_refl _) _).alloc (by rw [World.size_alloc]; omega) _, by omega, Nat.le_refl _, by omega, Nat.zero_le _⟩)
  generalize (W.alloc (Obj.map #[] 0)).alloc (Obj.cells #[Value.int IntKind.i64 (rm : Int), Value.map (some W.heap.size), Value.map none, Value.slice none 0 0, Value.int IntKind.i64 0, Value.int IntKind.i64 0, Value.int IntKind.i64 0, Value.bool false] 90) = w1 at HN ⊢
  go_loopw [23] (fun i wr => ∃ (k : Nat) (f : Fs) (R2 : Nat → Prop), i = .int .i64 (k : Int) ∧ Aside0 (k ≤ l.length ∧ Nw W wr (W.heap.size + 1) W.heap.size rm R2 f (taken f) ∧ newF rm f (l.drop k) = newF rm [] l)) (fun i _ => l.length - (intOf i).toNat)
  case atStart => exact ⟨0, [], _, rfl, ⟨Nat.zero_le _, HN.out, rfl⟩⟩
  case round =>
    obtain ⟨k, f, R2, rfl, HK⟩ := hrel
    clear HN
    by_cases hlt : k < l.length
    · have hA2 := hA (by omega)
      subst hA2
      have hki : (k : Int) < (l.length : Int) := by omega
      obtain ⟨⟨n, b⟩, hnb⟩ : ∃ p, l[k]? = some p := ⟨l[k], List.getElem?_eq_getElem hlt⟩
      obtain ⟨v, hv, hrg⟩ := HL.out.1 k n b hnb
      have hcell : ∀ a : Addr, ∀ u, W.cell? a = some u → wr.cell? a = some u := fun a u hu => pw_cell_below HK.out.2.1.bel hu
      have hc0 : wr.cell? ⟨g, k * 2, none⟩ = some (.string n) := hcell _ _ (hrg 0 _ rfl)
      have hc1 : wr.cell? ⟨g, k * 2 + 1, none⟩ = some v := hcell _ _ (hrg 1 _ rfl)
      obtain ⟨Ad, cd, rfl, hcd⟩ := hv.form
      have hdr := List.drop_eq_getElem_cons hlt
      have hpe : l[k] = (n, b) := by
        have := List.getElem?_eq_getElem hlt
        rw [hnb] at this
        exact (Option.some.inj this).symm
      have hsz := HL.out.2.2.1 (n, b) (hpe ▸ List.getElem_mem hlt)
      have HS := Aside0.mk (And.intro hsz.1 (And.intro hsz.2 (show n.size ≤ 9223372036854775807 from Nat.le_trans hsz.1 (by decide))))
      have hF : newF rm [] l = if isNm n = false then (none, 120) else if (get f n).isSome then (none, 122) else if rm < taken f + n.size + b.size then (none, 123) else newF rm (put f n b) (l.drop (k + 1)) := by
        rw [← HK.out.2.2, hdr, hpe]
        rfl
      have HB1 := Aside0.mk (below_alloc (Below.refl wr.heap.size wr) (.cells #[.string n, .slice Ad b.size cd] 33))
      have hvW := Aside0.mk hv
      clear hv hrg hcell hdr hpe hnb hsz hcd
      by_cases hi : isNm n = false
      · rw [if_pos hi] at hF
        have HF := Aside0.mk hF
        have HI := Aside0.mk hi
        clear hF hi
        go_wp2_with (first
          | (go_at_call 56; refine (isName_calls _ _ HS.out.2.2).mono ?_; rw [HI.out]; rintro e w2 ⟨rfl, hw⟩; obtain rfl := hw.symm)
          | fail)
        go_ret2
        exact .inr ⟨120, HF.out, rfl, HK.out.2.1.bel.trans (below_w HB1.out HK.out.2.1.bel.size)⟩
      rw [if_neg hi] at hF
      have HI := Aside0.mk (show isNm n = true by simpa using hi)
      have HN1 := Aside0.mk (HK.out.2.1.below HB1.out)
      have HX1 := Aside0.mk (blk_new wr (.cells #[.string n, .slice Ad b.size cd] 33))
      clear hi
      go_upto_region 9 with (first
        | (go_at_call 56; refine (isName_calls _ _ HS.out.2.2).mono ?_; rw [HI.out]; rintro e w2 ⟨rfl, hw⟩; obtain rfl := hw.symm)
        | fail)
      generalize wr.alloc (.cells #[.string n, .slice Ad b.size cd] 33) = w3 at HN1 HX1 HB1 ⊢
      have x0 : w3.cell? ⟨wr.heap.size, 0, none⟩ = some (.string n) := blk_cell HX1.out 0
      have d1 : w3.cell? ⟨W.heap.size + 1, 1, none⟩ = some (.map (some W.heap.size)) := blk_cell HN1.out.blk 1
      clear hc0 hc1
      by_cases hg : (get f n).isSome = true
      · rw [if_pos hg] at hF
        have HF := Aside0.mk hF
        obtain ⟨y, hy⟩ := Option.isSome_iff_exists.1 hg
        obtain ⟨v9, hv9, hlks⟩ := HN1.out.map.looks hy
        have HLK := Aside0.mk (fun (w : World) (hw : w.heap[W.heap.size]? = w3.heap[W.heap.size]?) => (hlks w hw).1)
        clear hg hy hv9 hF hlks
        refine wp_region_quiet_lit (by kernel_rfl) (by kernel_rfl) ?_
        repeat (quiet_step (fail))
        with_reducible refine wpQuiet_lookup ?hw_ 87 (.tmp 35) (.tmp 37) true rfl W.heap.size n rfl rfl _ (by rintro _ ⟨q1, rfl⟩; exact HLK.out _ rfl) ?_
        case hw_ => rfl
        repeat (quiet_step (fail))
        refine wpQuiet_nil ?_
        intro _ hw'
        obtain ⟨nq, hw2⟩ := hw'
        subst hw2
        have HB4 := Aside0.mk (HB1.out.trans (below_w (Drawn0.below (w := w3) (w' := w3.drewN nq) ⟨nq, rfl⟩) HB1.out.size))
        clear x0 d1 HLK
        generalize w3.drewN nq = w4 at HB4 ⊢
        go_wp2
        go_ret2
        exact .inr ⟨122, HF.out, rfl, HK.out.2.1.bel.trans (below_w HB4.out HK.out.2.1.bel.size)⟩
      · rw [if_neg hg] at hF
        have hg0 : get f n = none := by simpa using hg
        have HLK := Aside0.mk (fun (w : World) (hw : w.heap[W.heap.size]? = w3.heap[W.heap.size]?) => (HN1.out.map.nones hg0 w hw).1)
        have htk := taken_put n b HN1.out.map.srt
        rw [del_notin (get_none hg0)] at htk
        have hle := HN1.out.le
        have hs := HS.out
        have hrm := HL.out.2.2.2
        have e1 := i64_of (show -9223372036854775808 ≤ (n.size : Int) + (b.size : Int) ∧ (n.size : Int) + (b.size : Int) ≤ 9223372036854775807 by omega)
        have e2 : -9223372036854775808 ≤ (taken f : Int) + ((n.size : Int) + (b.size : Int)) ∧ (taken f : Int) + ((n.size : Int) + (b.size : Int)) ≤ 9223372036854775807 := by clear e1; omega
        have e2 := i64_of e2
        have HE := Aside0.mk (And.intro e1 e2)
        have HT := Aside0.mk (And.intro htk hle)
        clear hg hg0 e1 e2 htk hle hs hrm
        refine wp_region_quiet_lit (by kernel_rfl) (by kernel_rfl) ?_
        repeat (quiet_step (fail))
        with_reducible refine wpQuiet_lookup ?hw_ 87 (.tmp 35) (.tmp 37) true rfl W.heap.size n rfl rfl _ (by rintro _ ⟨q1, rfl⟩; exact HLK.out _ rfl) ?_
        case hw_ => rfl
        repeat (quiet_step (fail))
        refine wpQuiet_nil ?_
        intro _ hw'
        obtain ⟨nq, hw2⟩ := hw'
        subst hw2
        have HB4 := Aside0.mk (Drawn0.below (w := w3) (w' := w3.drewN nq) ⟨nq, rfl⟩)
        have HN4 := Aside0.mk (HN1.out.below HB4.out)
        have HX4 := Aside0.mk (blk_below HX1.out HB4.out)
        have HB4 := Aside0.mk (HB1.out.trans (below_w HB4.out HB1.out.size))
        clear x0 d1 HLK HN1 HX1 HB1
        generalize w3.drewN nq = w4 at HB4 HN4 HX4 ⊢
        go_upto_region 12 with fail
        have x0 : w4.cell? ⟨wr.heap.size, 0, none⟩ = some (.string n) := blk_cell HX4.out 0
        have x1 : w4.cell? ⟨wr.heap.size, 1, none⟩ = some (.slice Ad b.size cd) := blk_cell HX4.out 1
        have d4 : w4.cell? ⟨W.heap.size + 1, 4, none⟩ = some (.int .i64 (taken f : Int)) := blk_cell HN4.out.blk 4
        have e1 := HE.out.1
        have e2 := HE.out.2
        go_still_tail 14, (by kernel_rfl)
        repeat still_step
        try refine wpStill_nil ?_
        change wpList _ _ _ _ _ w4.drew
        have HB5 := Aside0.mk (Drawn0.below (w := w4) (w' := w4.drew) ⟨1, rfl⟩)
        have HN5 := Aside0.mk (HN4.out.below HB5.out)
        have HX5 := Aside0.mk (blk_below HX4.out HB5.out)
        have HB5 := Aside0.mk (HB4.out.trans (below_w HB5.out HB4.out.size))
        clear x0 x1 d4 HN4 HX4 HB4
        generalize w4.drew = w5 at HB5 HN5 HX5 ⊢
        have d4 : w5.cell? ⟨W.heap.size + 1, 4, none⟩ = some (.int .i64 (taken f : Int)) := blk_cell HN5.out.blk 4
        have z4 : w5.frozen? ⟨W.heap.size + 1, 4, none⟩ = false := blk_frozen HN5.out.blk 4
        have hcast : ((taken f + (n.size + b.size) : Nat) : Int) = (taken f : Int) + ((n.size : Int) + (b.size : Int)) := by push_cast; rfl
        have HU := Aside0.mk (HN5.out.use (taken f + (n.size + b.size)))
        have HXU := Aside0.mk (show (w5.setCell ⟨W.heap.size + 1, 4, none⟩ (.int .i64 ((taken f + (n.size + b.size) : Nat) : Int))).heap[wr.heap.size]? = some (.cells #[.string n, .slice Ad b.size cd] 33 (0, 0)) from (Below.heap_setCell w5 ⟨W.heap.size + 1, 4, none⟩ _ wr.heap.size (by show wr.heap.size ≠ W.heap.size + 1; have := blk_lt HK.out.2.1.blk; omega)).trans HX5.out)
        rw [hcast] at HU HXU
        have HCA := Aside0.mk hcast
        clear hcast
        go_upto_region 13 with fail
        clear d4 z4 HN5 HX5
        have HSZ := Aside0.mk (show wr.heap.size ≤ (w5.setCell ⟨W.heap.size + 1, 4, none⟩ (.int .i64 ((taken f : Int) + ((n.size : Int) + (b.size : Int))))).heap.size by rw [World.size_setCell]; exact HB5.out.size)
        generalize w5.setCell ⟨W.heap.size + 1, 4, none⟩ (.int .i64 ((taken f : Int) + ((n.size : Int) + (b.size : Int)))) = w6 at HU HXU HSZ ⊢
        have d4 : w6.cell? ⟨W.heap.size + 1, 4, none⟩ = some (.int .i64 ((taken f : Int) + ((n.size : Int) + (b.size : Int)))) := by
          have := blk_cell HU.out.blk 4
          rw [this]
          simp [HCA.out]
        by_cases hroom : rm < taken f + n.size + b.size
        · rw [if_pos hroom] at hF
          have HF := Aside0.mk hF
          have ht : decide ((rm : Int) < (taken f : Int) + ((n.size : Int) + (b.size : Int))) = true := decide_eq_true (by omega)
          clear hF hroom
          go_wp2
          go_ret2
          exact .inr ⟨123, HF.out, rfl, HU.out.bel⟩
        · rw [if_neg hroom] at hF
          have HF := Aside0.mk hF
          have ht : decide ((rm : Int) < (taken f : Int) + ((n.size : Int) + (b.size : Int))) = false := decide_eq_false (by omega)
          have HT2 := Aside0.mk (show taken (put f n b) ≤ rm ∧ taken (put f n b) = taken f + (n.size + b.size) by have := HT.out.1; omega)
          clear hF hroom
          go_upto_region 15 with fail
          have HB7 := Aside0.mk (Drawn0.below (w := w6) (w' := w6.drew) ⟨1, rfl⟩)
          have HN7 := Aside0.mk (HU.out.below HB7.out)
          have HX7 := Aside0.mk (blk_below HXU.out HB7.out)
          have HV7 := Aside0.mk (show Rw w6.drew Q (.slice Ad b.size cd) b from ((hvW.out.below HU.out.bel).below HB7.out))
          have HSZ7 := Aside0.mk (Nat.le_trans HSZ.out HB7.out.size)
          refine wp_region_held_drew (S := fun w' => Aside0 (w'.heap[W.heap.size + 1]? = some (.cells #[.int .i64 (rm : Int), .map (some W.heap.size), .map none, .slice none 0 0, .int .i64 ((taken f + (n.size + b.size) : Nat) : Int), .int .i64 0, .int .i64 0, .bool false] 90 (0, 0)) ∧ w'.heap[wr.heap.size]? = some (.cells #[.string n, .slice Ad b.size cd] 33 (0, 0)))) (by kernel_rfl) ⟨HN7.out.blk, HX7.out⟩ (fun hHeld => ?_)
          refine wpAnyH_take (i := 0) (oi := Oper.mk _ _ _ _ _ _) (v := ?v0) rfl (by kernel_rfl) (by kernel_rfl) (by kernel_rfl) (fun _ _ _ h => h) (Or.inl ⟨by rfl, ?hy0⟩) (by assumption) ?r0
          case hy0 => (intro w hSw; clear hSw; go_simp; (try with_reducible rfl))
          try simp only [Act.put, List.setIfInBounds_toArray, List.set_cons_zero, List.set_cons_succ]
          refine wpAnyH_take (i := 1) (oi := Oper.mk _ _ _ _ _ _) (v := ?v1) rfl (by kernel_rfl) (by kernel_rfl) (by kernel_rfl) (fun _ _ _ h => h) (Or.inl ⟨by rfl, ?hy1⟩) (by assumption) ?r1
          case hy1 => (intro w hSw; clear hSw; go_simp; (try with_reducible rfl))
          try simp only [Act.put, List.setIfInBounds_toArray, List.set_cons_zero, List.set_cons_succ]
          refine wpAnyH_take (i := 2) (oi := Oper.mk _ _ _ _ _ _) (v := ?v2) rfl (by kernel_rfl) (by kernel_rfl) (by kernel_rfl) (fun _ _ _ h => h) (Or.inl ⟨by rfl, ?hy2⟩) (by assumption) ?r2
          case hy2 => (intro w hSw; clear hSw; go_simp; (try with_reducible rfl))
          try simp only [Act.put, List.setIfInBounds_toArray, List.set_cons_zero, List.set_cons_succ]
          refine wpAnyH_take (i := 3) (oi := Oper.mk _ _ _ _ _ _) (v := ?v3) rfl (by kernel_rfl) (by kernel_rfl) (by kernel_rfl) (fun _ _ _ h => h) (Or.inl ⟨by rfl, ?hy3⟩) (by assumption) ?r3
          case hy3 => (intro w hSw; (have g1 : w.cell? ⟨W.heap.size + 1, 1, none⟩ = some (.map (some W.heap.size)) := blk_cell hSw.out.1 1); clear hSw; go_simp; (try with_reducible rfl))
          try simp only [Act.put, List.setIfInBounds_toArray, List.set_cons_zero, List.set_cons_succ]
          refine wpAnyH_take (i := 4) (oi := Oper.mk _ _ _ _ _ _) (v := ?v4) rfl (by kernel_rfl) (by kernel_rfl) (by kernel_rfl) (fun _ _ _ h => h) (Or.inl ⟨by rfl, ?hy4⟩) (by assumption) ?r4
          case hy4 => (intro w hSw; clear hSw; go_simp; (try with_reducible rfl))
          try simp only [Act.put, List.setIfInBounds_toArray, List.set_cons_zero, List.set_cons_succ]
          refine wpAnyH_take (i := 5) (oi := Oper.mk _ _ _ _ _ _) (v := ?v5) rfl (by kernel_rfl) (by kernel_rfl) (by kernel_rfl) (fun _ _ _ h => h) (Or.inl ⟨by rfl, ?hy5⟩) (by assumption) ?r5
          case hy5 => (intro w hSw; (have g2 : w.cell? ⟨wr.heap.size, 0, none⟩ = some (.string n) := blk_cell hSw.out.2 0); clear hSw; go_simp; (try with_reducible rfl))
          try simp only [Act.put, List.setIfInBounds_toArray, List.set_cons_zero, List.set_cons_succ]
          refine wpAnyH_take (i := 6) (oi := Oper.mk _ _ _ _ _ _) (v := ?v6) rfl (by kernel_rfl) (by kernel_rfl) (by kernel_rfl) (fun _ _ _ h => h) (Or.inl ⟨by rfl, ?hy6⟩) (by assumption) ?r6
          case hy6 => (intro w hSw; clear hSw; go_simp; (try with_reducible rfl))
          try simp only [Act.put, List.setIfInBounds_toArray, List.set_cons_zero, List.set_cons_succ]
          refine wpAnyH_take (i := 7) (oi := Oper.mk _ _ _ _ _ _) (v := ?v7) rfl (by kernel_rfl) (by kernel_rfl) (by kernel_rfl) (fun _ _ _ h => h) (Or.inl ⟨by rfl, ?hy7⟩) (by assumption) ?r7
          case hy7 => (intro w hSw; (have g3 : w.cell? ⟨wr.heap.size, 1, none⟩ = some (.slice Ad b.size cd) := blk_cell hSw.out.2 1); clear hSw; go_simp; (try with_reducible rfl))
          try simp only [Act.put, List.setIfInBounds_toArray, List.set_cons_zero, List.set_cons_succ]
          clear d4 HU HXU HSZ HB7
          generalize w6.drew = w7 at HN7 HX7 HV7 HSZ7 hHeld ⊢
          refine wpAnyH_ready (rs := [8]) (by kernel_rfl) (by simp) ?_
          refine AllReadyH.cons (o := Oper.mk _ _ _ _ _ _) rfl (fun K hK => ?_) AllReadyH.nil
          go_simp
          refine (clone_any HV7.out HS.out.2.1).mono ?_
          rintro e w8 ⟨v8, rfl, hv8, hb8⟩
          obtain ⟨es, m, hmu, R3, hnw⟩ := HN7.out.store (n := n) hb8 hv8 HT2.out.1
          have HMU := Aside0.mk hmu
          have HNW := Aside0.mk hnw
          have HN8 := Aside0.mk (HN7.out.below hb8)
          have HX8 := Aside0.mk (blk_below HX7.out hb8)
          have HX9 := Aside0.mk (blk_setMap HX8.out (mp := W.heap.size) (by have := HK.out.2.1.bel.size; have := blk_lt HK.out.2.1.blk; omega) (.map es m))
          clear hv8 hb8 hmu hnw
          refine hK.out _ _ ⟨HN8.out.blk, HX8.out⟩ (fun hHeld8 => ?_)
          clear hK K
          try simp only [Act.put, List.setIfInBounds_toArray, List.set_cons_zero, List.set_cons_succ]
          have hput := HMU.out
          refine wpAnyH_ready (rs := [9]) (by kernel_rfl) (by simp) ?_
          refine AllReadyH.cons (o := Oper.mk _ _ _ _ _ _) rfl (fun K hK => ?_) AllReadyH.nil
          go_simp
          refine hK.out _ _ ⟨HNW.out.blk, HX9.out⟩ (fun hHeld9 => ?_)
          clear hK K hput
          try simp only [Act.put, List.setIfInBounds_toArray, List.set_cons_zero, List.set_cons_succ]
          refine wpAnyH_done (by kernel_rfl) ?_ _
          have hw9 := i64_of (show -9223372036854775808 ≤ (k : Int) + 1 ∧ (k : Int) + 1 ≤ 9223372036854775807 by have := HL.out.2.1; clear e1 e2; omega)
          clear e1 e2
          go_wp2
          go_roundw
          case rel => exact ⟨k + 1, put f n b, R3, by push_cast; rfl, ⟨by omega, by have h9 := HNW.out; rw [← HT2.out.2] at h9; exact h9, HF.out.symm⟩⟩
          case measure => simp [intOf]; omega
    · have hk : k = l.length := by have := HK.out.1; omega
      subst hk
      have HF := Aside0.mk (show newF rm [] l = (some f, 0) by rw [← HK.out.2.2, List.drop_length]; rfl)
      have c1 : wr.cell? ⟨W.heap.size + 1, 1, none⟩ = some (.map (some W.heap.size)) := blk_cell HK.out.2.1.blk 1
      have HT := Aside0.mk (show taken f ≤ 1099511627776 by have := HK.out.2.1.le; have := HL.out.2.2.2; omega)
      go_wp2_with (first
        | (go_at_call 54; refine (copied_calls HK.out.2.1.map (fun k q => (HK.out.2.1.new k q).2.2.2) HT.out).mono ?_; rintro r w4 ⟨out, R3, rfl, hf4, hr4, ho4, hb4⟩; (have HR := Aside0.mk (HK.out.2.1.done hb4 hf4 hr4 ho4 HL.out.2.2.2)); (have HDx := Aside0.mk (HK.out.2.1.below hb4)); clear hf4 hr4 ho4 hb4; (have k2 : w4.cell? ⟨W.heap.size + 1, 2, none⟩ = some (.map none) := blk_cell HDx.out.blk 2); (have f2 : w4.frozen? ⟨W.heap.size + 1, 2, none⟩ = false := blk_frozen HDx.out.blk 2))
        | fail)
      go_ret2
      obtain ⟨S, h1, h2, h3⟩ := HR.out
      exact .inl ⟨_, S, f, HF.out, rfl, h1, h2, h3⟩
end Gd

end Go.Proofs.Ytidijiijciokpaa.G
