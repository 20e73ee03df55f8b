import Derived.Test.YtidijiijciokpaaK5
import Derived.Maps.OwnOps
import Derived.WideMake
import Derived.Laws.IdiomRangeMap
import Derived.Maps.AppendAt
import Derived.Deep.RegionLaw
import Derived.ArgAppend
import Derived.Maps.RangeRun
import Derived.Deep.Upon
import Derived.Deep.QuietTactic
import Derived.BigQuiet
import Derived.Deep.RegionHeld3
import Derived.Deep.DeepCutAuto
import Derived.Deep.CutBlock
import Derived.Laws.EntriesVeiled
import Derived.StillTailTactics
import Derived.Laws.Tables
import Derived.Laws.CopyOwn
import Derived.IntWalk
import Derived.Test.YtidijiijciokpaaBlocks
import Derived.Laws.CopyOwn
import Derived.Laws.Tables
import Derived.Outline
namespace Go.Proofs.Ytidijiijciokpaa.G
open Go.RowKit Go.Proofs.YtidijiijciokpaaW.PrintWords Go.Proofs.YtidijiijciokpaaW.PrintLast Go.Proofs.YtidijiijciokpaaW.PrintMore
set_option linter.unusedVariables false
set_option linter.unusedSimpArgs false
namespace Gd
open Go.Proofs.Ytidijiijciokpaa.Blocks Frm Go.Proofs.Ytidijiijciokpaa.E
set_option maxRecDepth 100000
theorem Sq.own {W0 w w' : World} {S : Nat → Prop} {dp n c : Nat} {d : Ab} {rows : List (Option Addr × Fs)} {A : Option Addr} {l : List S47} (h : Sq W0 w S dp d rows) (hr : Kd.R k47 47 w' w.heap.size (fun _ => True) (.slice A n c) l) : Kd.F k47 w' (fun k => ¬ S k) A n l :=
  Kd.F_mono (Kd.R_F (Kd.R_bound hr)) (fun k hk q => by have := h.dk.lt k q; have := hk.2.1; omega)
set_option maxHeartbeats 8000000 in
theorem synced_calls {W : World} (A1 A2 : Option Addr) (c1 c2 : Nat) (l1 l2 : List S47) (keep : Int) (hC1 : Kd.C k47 W A1 l1.length l1) (hC2 : Kd.C k47 W A2 l2.length l2) (hl2 : l2.length ≤ c2)
    (h1 : ∀ o ∈ l1, OpSz o) (h2 : ∀ o ∈ l2, OpSz o) (hw : wts l1 ≤ 1099511627776) (hk0 : -9223372036854775808 ≤ keep) (hk1 : keep ≤ 9223372036854775807) :
    Calls Try.prog 4 #[.slice A1 l1.length c1, .int .i64 keep, .slice A2 l2.length c2] W fun e w => e = .returned (.bool true) ∧ Below W.heap.size W w := by
  obtain ⟨d3, e3⟩ : ∃ x, x = (((wk 5000).play l1).start).fail 0 := ⟨_, rfl⟩
  have q3 : d3.down = false := by rw [e3]; rfl
  have f3 : d3.fails = 0 := by rw [e3]; rfl
  have s3 := sync_live q3 f3
  obtain ⟨d4, e4⟩ : ∃ x, x = d3.sync.1 := ⟨_, rfl⟩
  have t4 : d4.steps = [] := by rw [e4, s3]
  have q4 : d4.down = false := by rw [e4, s3]; exact q3
  have l4 : d4.lasts = d4.seen := by rw [e4, s3]
  obtain ⟨d5, e5⟩ : ∃ x, x = d4.play (onl l2) := ⟨_, rfl⟩
  have k5 := play_only (d := d4) (onl_ok (l := l2))
  rw [← e5] at k5
  have q5 : d5.down = false := k5.2.1.trans q4
  obtain ⟨d6, e6⟩ : ∃ x, x = d5.crash keep := ⟨_, rfl⟩
  have v6 : d6 = { room := d5.room, seen := d5.left keep, lasts := d5.left keep, steps := [], used := taken (d5.left keep), acts := d5.acts, fails := 0, down := true } := by rw [e6]; simp [Ab.crash, q5]
  have b1 : ((wk 5000).play l1).Bq (4 + wts l1) := play_bq l1 (wk_bq 5000)
  have b3 : d3.Bq (4 + wts l1) := by rw [e3]; exact fail_bq (d := ((wk 5000).play l1).start) b1 0
  have b4 : d4.Bq (5 + wts l1) := by rw [e4]; exact (sync_bq b3).mono (by omega)
  have b5 : d5.Bq (5 + wts l1 + 2520) := by rw [e5]; exact (play_bq (onl l2) b4).mono (by have := wts_onl l2; omega)
  have E1 := Aside0.mk (show d3.sync.2 = 0 by rw [s3])
  have E2 := Aside0.mk (show (pend d4.steps : Int) = 0 by rw [t4]; rfl)
  have E3 := Aside0.mk (show decide (d4.left keep = d4.seen) = true from decide_eq_true ((left_nil t4 keep).trans l4))
  have E4 := Aside0.mk (show decide (d4.left 0 = d4.seen) = true from decide_eq_true ((left_nil t4 0).trans l4))
  have E5 := Aside0.mk (show decide (d5.left 0 = d4.seen) = true from decide_eq_true ((left_zero d5).trans (k5.1.trans l4)))
  have E6 := Aside0.mk (fun (h : d5.Ok) => show decide (d5.left (pend d5.steps : Int) = d5.seen) = true from decide_eq_true (left_all h))
  have E7 := Aside0.mk (show d6.down = true by rw [v6])
  have E8 := Aside0.mk (show decide (d6.seen = d5.left keep) = true from decide_eq_true (by rw [v6]))
  have E9 := Aside0.mk (show (pend d6.steps : Int) = 0 by rw [v6]; rfl)
  have E10 := Aside0.mk (show d6.start.down = false from rfl)
  have E11 := Aside0.mk (show decide (d6.start.seen = d5.left keep) = true from decide_eq_true (by rw [v6]; rfl))
  have E12 := Aside0.mk (show d6.start.sync.2 = 0 by rw [sync_live (d := d6.start) rfl (by rw [v6]; rfl)])
  have B1 := Aside0.mk (b1.bd (by omega))
  have B3 := Aside0.mk (b3.bd (by omega))
  have B4 := Aside0.mk b4
  have B5 := Aside0.mk (b5.bd (by omega))
  have B5' := Aside0.mk (show (pend d5.steps : Int) ≤ 9223372036854775807 by have := b5.2.2; omega)
  have B6 := Aside0.mk (show d6.Bq (5 + wts l1 + 2520) by rw [e6]; exact crash_bq b5 keep)
  have HW := Aside0.mk hw
  have e3' := Aside0.mk e3.symm
  have e4' := Aside0.mk e4.symm
  have e5' := Aside0.mk e5.symm
  have e6' := Aside0.mk e6.symm
  have HA := Aside0.mk (And.intro hC1 (And.intro hC2 (And.intro h1 (And.intro h2 (And.intro hk0 hk1)))))
  have HL2 := Aside0.mk hl2
  clear e3 q3 f3 s3 e4 t4 q4 l4 e5 k5 q5 e6 v6 b1 b3 b4 b5 hw hC1 hC2 h1 h2 hk0 hk1 hl2
  go_enter Try.func4, Try.ntmps4
  go_wp2_with (first
    | (go_at_call 10; refine (works_calls (W := W) 5000 (by decide) (by decide)).mono ?_; rintro r w2 ⟨dp, S, rfl, hD, hS, hB⟩; (have HD := Aside0.mk (show Sq W w2 S dp (wk 5000) [] from ⟨hD, hS, hB, fun A fs h => by cases h⟩)); clear hD hS hB)
    | (go_at_call 11; refine (play_calls HD.out.dk (wk_bq 5000) A1 c1 l1 (HD.out.arg HA.out.1) (by have := HW.out; omega) HA.out.2.2.1).mono ?_; rintro r w3 ⟨rfl, S3, hx, hy⟩; replace HD := Aside0.mk (HD.out.mut hx hy); clear hx hy)
    | (go_at_call 11; refine (play_calls HD.out.dk B4.out A3 c3 (onl l2) HO.out (by have := HW.out; have := wts_onl l2; omega) (onl_sz HA.out.2.2.2.1)).mono ?_; rintro r w3 ⟨rfl, S3, hx, hy⟩; rw [e5'.out] at hx; replace HD := Aside0.mk (HD.out.mut hx hy); clear hx hy HO)
    | (go_at_call 12; refine (hawserlaw12_only.calls _ A2 c2 l2 (onl l2) _ (Kd.F_now (HD.out.arg HA.out.2.1)) HL2.out (only_f l2)).mono ?_; rintro r w4 ⟨v, rfl, hx, hy⟩; obtain ⟨A3, c3, rfl⟩ := Kd.R_slice hx; (have HO := Aside0.mk (HD.out.own hx)); replace HD := Aside0.mk (HD.out.look hy); clear hx hy)
    | (go_at_call 18; refine (start_calls HD.out.dk).mono ?_; rintro r w3 ⟨rfl, S3, hx, hy⟩; replace HD := Aside0.mk (HD.out.mut hx hy); clear hx hy)
    | (go_at_call 19; refine (fail_calls HD.out.dk 0 (by omega)).mono ?_; rintro r w3 ⟨rfl, S3, hx, hy⟩; rw [e3'.out] at hx; replace HD := Aside0.mk (HD.out.mut hx hy); clear hx hy)
    | (go_at_call 20; refine (sync_calls HD.out.dk B3.out).mono ?_; rintro r w3 ⟨rfl, S3, hx, hy⟩; rw [e4'.out] at hx; rw [E1.out]; replace HD := Aside0.mk (HD.out.mut hx hy); clear hx hy)
    | (go_at_call 20; refine (sync_calls HD.out.dk (Ab.Bq.bd (d := d6.start) B6.out (by have := HW.out; omega))).mono ?_; rintro r w3 ⟨rfl, S3, hx, hy⟩; rw [E12.out]; replace HD := Aside0.mk (HD.out.mut hx hy); clear hx hy)
    | (go_at_call 13; refine (pending_calls HD.out.dk (by first | exact B4.out.bd (by have := HW.out; omega) | exact B5.out | exact B6.out.bd (by have := HW.out; omega))).mono ?_; rintro r w3 ⟨rfl, hb⟩; replace HD := Aside0.mk (HD.out.look hb); clear hb; first | rw [E2.out] | rw [E9.out] | skip)
    | (go_at_call 17; refine (files_calls HD.out.dk).mono ?_; rintro r w3 ⟨v, rfl, hx, hy⟩; obtain ⟨A, c, rfl, hz⟩ := HD.out.row hx hy HD.out.dk.ok.seenLen; replace HD := Aside0.mk hz; clear hx hy hz)
    | (go_at_call 14; refine Calls.mono (leftp_calls HD.out.dk ?n1 _ ?n2 ?n3) ?_; (case n1 => first | exact (B4.out.bd (by have := HW.out; omega)).2.1 | exact B5.out.2.1); (case n2 => first | with_reducible exact HA.out.2.2.2.2.1 | omega); (case n3 => first | with_reducible exact HA.out.2.2.2.2.2 | with_reducible exact B5'.out | omega); rintro r w3 ⟨v, rfl, hx, hy⟩; obtain ⟨A, c, rfl, hz⟩ := HD.out.row hx hy (HD.out.dk.ok.leftLen _); replace HD := Aside0.mk hz; clear hx hy hz)
    | (go_at_call 16; refine Calls.mono (equal_calls _ _ _ _ _ _ ?m1 ?m2 ?m3 ?m4) ?_; (case m1 => exact Lv.now (HD.out.rows _ _ (by repeat (first | exact List.Mem.head _ | refine List.Mem.tail _ ?_)))); (case m2 => exact Lv.now (HD.out.rows _ _ (by repeat (first | exact List.Mem.head _ | refine List.Mem.tail _ ?_)))); (case m3 => exact (HD.out.rows _ _ (by repeat (first | exact List.Mem.head _ | refine List.Mem.tail _ ?_))).2); (case m4 => exact (HD.out.rows _ _ (by repeat (first | exact List.Mem.head _ | refine List.Mem.tail _ ?_))).2); rintro r w3 ⟨rfl, hb⟩; (first | rw [E3.out] | rw [E4.out] | rw [E5.out] | rw [E8.out] | rw [E11.out] | rw [E6.out HD.out.dk.ok]); replace HD := Aside0.mk (HD.out.look hb); clear hb)
    | (go_at_call 21; refine (crash_calls HD.out.dk B5.out.2.1 keep HA.out.2.2.2.2.1 HA.out.2.2.2.2.2).mono ?_; rintro r w3 ⟨rfl, S3, hx, hy⟩; rw [e6'.out] at hx; replace HD := Aside0.mk (HD.out.mut hx hy); clear hx hy)
    | (go_at_call 22; refine (down_calls HD.out.dk).mono ?_; rintro r w3 ⟨rfl, hw⟩; obtain rfl := hw.symm; first | rw [E7.out] | rw [E10.out])
    | fail)
  go_ret
  exact ⟨rfl, HD.out.bel⟩
end Gd

end Go.Proofs.Ytidijiijciokpaa.G
