import Derived.Test.YtepkaaplhcbkbaaGreatT6
import Derived.Test.YtepkaaplhcbkbaaGreatGx4
import Derived.Deep.Upon
import Derived.Deep.QuietTactic
import Derived.BigQuiet
import Derived.Deep.RegionHeld3
import Derived.Deep.DeepCutAuto
import Derived.Deep.CutBlock
import Derived.Laws.EntriesVeiled
import Derived.StillTailTactics
import Derived.Laws.Tables
import Derived.Laws.CopyOwn
import Derived.Test.YtepkaaplhcbkbaaGreatBlocks
import Derived.Laws.CopyOwn
import Derived.Laws.Tables
import Derived.Outline
namespace Go.Proofs.YtepkaaplhcbkbaaGreat.G
open Go.RowKit Go.Proofs.YtepkaaplhcbkbaaGreatW.PrintWords Go.Proofs.YtepkaaplhcbkbaaGreatW.PrintLast Go.Proofs.YtepkaaplhcbkbaaGreatW.PrintMore
set_option linter.unusedVariables false
set_option linter.unusedSimpArgs false
namespace Msg
theorem eqOp (d : Nat) (w : World) (a0 b0 : Int) (a1 b1 a2 b2 : ByteArray) (a3 b3 : Int) :
    (Op.equalIn (d + 2) 32 (.agg #[.int .i64 a0, .string a1, .string a2, .int .i64 a3]) (.agg #[.int .i64 b0, .string b1, .string b2, .int .i64 b3])).run Tryz.prog w = .ok (a0 == b0 && (a1.toList == b1.toList && (a2.toList == b2.toList && a3 == b3))) w := by
  refine eqA_of Tryz.underlying32 (by kernel_rfl) ?_
  refine eqf_cons (by rfl) (by go_simp; rfl) (by go_simp; rfl) (by go_simp) ?_
  refine eqf_cons (by rfl) (by go_simp; rfl) (by go_simp; rfl) (by go_simp) ?_
  refine eqf_cons (by rfl) (by go_simp; rfl) (by go_simp; rfl) (by go_simp) ?_
  exact eqf_last (by rfl) (by go_simp; rfl) (by go_simp; rfl) (by go_simp)
theorem eqUpd (d : Nat) (w : World) (a0 b0 a1 b1 a2 b2 a3 b3 : Int) (a4 b4 a5 b5 : ByteArray) (a6 b6 : Int) :
    (Op.equalIn (d + 3) 34 (.agg #[.int .i64 a0, .int .i64 a1, .int .i64 a2, .int .i64 a3, .string a4, .string a5, .int .i64 a6]) (.agg #[.int .i64 b0, .int .i64 b1, .int .i64 b2, .int .i64 b3, .string b4, .string b5, .int .i64 b6])).run Tryz.prog w = .ok (a0 == b0 && (a1 == b1 && (a2 == b2 && (a3 == b3 && (a4.toList == b4.toList && (a5.toList == b5.toList && a6 == b6)))))) w := by
  refine eqA_of Tryz.underlying34 (by kernel_rfl) ?_
  refine eqf_cons (by rfl) (by go_simp; rfl) (by go_simp; rfl) (by go_simp) ?_
  refine eqf_cons (by rfl) (by go_simp; rfl) (by go_simp; rfl) (by go_simp) ?_
  refine eqf_cons (by rfl) (by go_simp; rfl) (by go_simp; rfl) (by go_simp) ?_
  exact eqf_last (by rfl) (by go_simp) (by go_simp) (eqOp _ _ _ _ _ _ _ _ _ _)
theorem eqRes (d : Nat) (w : World) (a0 b0 a1 b1 : Int) :
    (Op.equalIn (d + 2) 37 (.agg #[.int .i64 a0, .int .i64 a1]) (.agg #[.int .i64 b0, .int .i64 b1])).run Tryz.prog w = .ok (a0 == b0 && a1 == b1) w := by
  refine eqA_of Tryz.underlying37 (by kernel_rfl) ?_
  refine eqf_cons (by rfl) (by go_simp; rfl) (by go_simp; rfl) (by go_simp) ?_
  exact eqf_last (by rfl) (by go_simp; rfl) (by go_simp; rfl) (by go_simp)
theorem eqRow (d : Nat) (w : World) (a0 b0 a1 b1 : ByteArray) (a2 b2 : Int) :
    (Op.equalIn (d + 2) 39 (.agg #[.string a0, .string a1, .int .i64 a2]) (.agg #[.string b0, .string b1, .int .i64 b2])).run Tryz.prog w = .ok (a0.toList == b0.toList && (a1.toList == b1.toList && a2 == b2)) w := by
  refine eqA_of Tryz.underlying39 (by kernel_rfl) ?_
  refine eqf_cons (by rfl) (by go_simp; rfl) (by go_simp; rfl) (by go_simp) ?_
  refine eqf_cons (by rfl) (by go_simp; rfl) (by go_simp; rfl) (by go_simp) ?_
  exact eqf_last (by rfl) (by go_simp; rfl) (by go_simp; rfl) (by go_simp)
theorem eqTok (d : Nat) (w : World) (a0 b0 a1 b1 a2 b2 : Int) :
    (Op.equalIn (d + 2) 47 (.agg #[.int .i64 a0, .int .i64 a1, .int .i64 a2]) (.agg #[.int .i64 b0, .int .i64 b1, .int .i64 b2])).run Tryz.prog w = .ok (a0 == b0 && (a1 == b1 && a2 == b2)) w := by
  refine eqA_of Tryz.underlying47 (by kernel_rfl) ?_
  refine eqf_cons (by rfl) (by go_simp; rfl) (by go_simp; rfl) (by go_simp) ?_
  refine eqf_cons (by rfl) (by go_simp; rfl) (by go_simp; rfl) (by go_simp) ?_
  exact eqf_last (by rfl) (by go_simp; rfl) (by go_simp; rfl) (by go_simp)
set_option maxRecDepth 100000 in
theorem eqDig0 (W : World) (A B : Option Addr) (c d : Nat) : Calls Tryz.prog 63 #[.slice A 0 c, .slice B 0 d] W fun e w => e = .returned (.bool true) ∧ w = W := by
  go_enter Tryz.func63, Tryz.ntmps63
  go_wp2
  refine wp_loop_rounds 1 ?_
  rw [rounds_succ]
  go_wp2
  go_ret
  exact ⟨rfl, rfl⟩
set_option maxRecDepth 100000 in
theorem eqPie0 (W : World) (A B : Option Addr) (c d : Nat) (v : Value) : Calls Tryz.prog 130 #[.slice A 0 c, .slice B 0 d, v] W fun e w => e = .returned (.bool true) ∧ w = W := by
  go_enter Tryz.func130, Tryz.ntmps130
  go_wp2
  refine wp_loop_rounds 1 ?_
  rw [rounds_succ]
  go_wp2
  go_ret
  exact ⟨rfl, rfl⟩
set_option maxRecDepth 100000 in
theorem eqChu0 (W : World) (i : Int) (b : Bool) (A : Option Addr) (c : Nat) : Calls Tryz.prog 64 #[.agg #[.int .i64 i, .bool b, .slice A 0 c], .agg #[.int .i64 i, .bool b, .slice A 0 c]] W fun e w => e = .returned (.bool true) ∧ Below W.heap.size W w := by
  have HB := Aside0.mk (below_alloc (below_alloc (Below.refl W.heap.size W) (.cells #[.int .i64 i, .bool b, .slice A 0 c] 45)) (.cells #[.int .i64 i, .bool b, .slice A 0 c] 45))
  go_enter Tryz.func64, Tryz.ntmps64
  go_wp2_with (first | (go_at_call 130; refine (eqPie0 _ _ _ _ _ _).mono ?_; rintro e w1 ⟨rfl, rfl⟩) | go_in)
  go_ret
  exact ⟨rfl, HB.out⟩
theorem eqi0 (l : List Int) (hl : l.length ≤ 1099511627776) : ∀ (d i k : Nat), l.length - i = d → i ≤ l.length → d + 1 ≤ k → slices_Equal_int_int.l0 k l l (l.length : Int) (i : Int) = some true := by
  intro d
  induction d with
  | zero =>
    intro i k hd hi hk
    obtain ⟨k, rfl⟩ : ∃ m, k = m + 1 := ⟨k - 1, by omega⟩
    rw [slices_Equal_int_int.l0, if_neg (by omega)]
  | succ d ih =>
    intro i k hd hi hk
    obtain ⟨k, rfl⟩ : ∃ m, k = m + 1 := ⟨k - 1, by omega⟩
    rw [slices_Equal_int_int.l0, if_pos (by omega), if_pos (by omega), if_pos (by omega), if_pos (by omega), if_pos rfl, show wrap64 ((i : Int) + 1) = ((i + 1 : Nat) : Int) by unfold wrap64; omega]
    exact ih (i + 1) k (by omega) (by omega) (by omega)
theorem eqi_same (l : List Int) (hl : l.length ≤ 1099511627776) : slices_Equal_int_int.f (l.length + 1) l l = some true := by
  rw [slices_Equal_int_int.f, if_pos rfl]
  exact eqi0 l hl l.length 0 (l.length + 1) (by omega) (by omega) (by omega)
theorem eqInt_calls (W : World) (A : Option Addr) (n c : Nat) (l : List Int) (hr : Kd.C (Kd.int .i64) W A l.length l) (hn : n = l.length) (hc : n ≤ c) (hl : l.length ≤ 1099511627776) : Calls Tryz.prog 62 #[.slice A n c, .slice A n c] W fun e w => e = .returned (.bool true) ∧ Below W.heap.size W w := by
  subst hn
  exact (slices_Equal_int_int.calls _ A c l A c l true W hr hc hr hc (eqi_same l hl)).mono fun e w ⟨h1, h2⟩ => ⟨h1, h2.below⟩
set_option maxRecDepth 100000 in
set_option maxHeartbeats 4000000 in
/-- A message is like itself, where it has no digests and no pieces. -/
theorem alike_same (W : World) (m : Mg) (l : Ls) (hr : Rd W m l) (h1 : l.ch.length ≤ 1099511627776) (h2 : l.bk.length ≤ 1099511627776) (hd : m.dgN = 0) (hp : m.pcN = 0) : Calls Tryz.prog 25 #[.agg m.cells, .agg m.cells] W fun e w => e = .returned (.bool true) ∧ Below W.heap.size W w := by
  obtain ⟨kd, fr, tt, ep, att, cl, nu, sq, key, ok, okey, oval, over, us, ucl, un, uk, ukey, uval, uver, rc, rv, wkey, wval, wver, fd, ce, chA, chN, chC, lv, bkA, bkN, bkC, dgA, dgN, dgC, ix, la, pcA, pcN, pcC, t1, t2, t3⟩ := m
  simp only at hd hp
  subst hd hp
  have HR := Aside0.mk hr
  clear hr
  have HN := Aside0.mk (And.intro h1 h2)
  clear h1 h2
  have q1 := fun w a0 b0 a1 b1 a2 b2 a3 b3 => eqOp 9998 w a0 b0 a1 b1 a2 b2 a3 b3
  have q2 := fun w a0 b0 a1 b1 a2 b2 a3 b3 a4 b4 a5 b5 a6 b6 => eqUpd 9997 w a0 b0 a1 b1 a2 b2 a3 b3 a4 b4 a5 b5 a6 b6
  have q3 := fun w a0 b0 a1 b1 => eqRes 9998 w a0 b0 a1 b1
  have q4 := fun w a0 b0 a1 b1 a2 b2 => eqRow 9998 w a0 b0 a1 b1 a2 b2
  have q5 := fun w a0 b0 a1 b1 a2 b2 => eqTok 9998 w a0 b0 a1 b1 a2 b2
  have HB := Aside0.mk (below_alloc (below_alloc (Below.refl W.heap.size W) (.cells #[.int .i64 kd, .int .i64 fr, .int .i64 tt, .int .i64 ep, .int .i64 att, .int .i64 cl, .int .i64 nu, .int .i64 sq, .string key, .int .i64 ok, .string okey, .string oval, .int .i64 over, .int .i64 us, .int .i64 ucl, .int .i64 un, .int .i64 uk, .string ukey, .string uval, .int .i64 uver, .int .i64 rc, .int .i64 rv, .string wkey, .string wval, .int .i64 wver, .bool fd, .int .i64 ce, .slice chA chN chC, .int .i64 lv, .slice bkA bkN bkC, .slice dgA 0 dgC, .int .i64 ix, .bool la, .slice pcA 0 pcC, .int .i64 t1, .int .i64 t2, .int .i64 t3] 49)) (.cells #[.int .i64 kd, .int .i64 fr, .int .i64 tt, .int .i64 ep, .int .i64 att, .int .i64 cl, .int .i64 nu, .int .i64 sq, .string key, .int .i64 ok, .string okey, .string oval, .int .i64 over, .int .i64 us, .int .i64 ucl, .int .i64 un, .int .i64 uk, .string ukey, .string uval, .int .i64 uver, .int .i64 rc, .int .i64 rv, .string wkey, .string wval, .int .i64 wver, .bool fd, .int .i64 ce, .slice chA chN chC, .int .i64 lv, .slice bkA bkN bkC, .slice dgA 0 dgC, .int .i64 ix, .bool la, .slice pcA 0 pcC, .int .i64 t1, .int .i64 t2, .int .i64 t3] 49))
  have QA := Aside0.mk (blk_alloc (blk_new W (.cells #[.int .i64 kd, .int .i64 fr, .int .i64 tt, .int .i64 ep, .int .i64 att, .int .i64 cl, .int .i64 nu, .int .i64 sq, .string key, .int .i64 ok, .string okey, .string oval, .int .i64 over, .int .i64 us, .int .i64 ucl, .int .i64 un, .int .i64 uk, .string ukey, .string uval, .int .i64 uver, .int .i64 rc, .int .i64 rv, .string wkey, .string wval, .int .i64 wver, .bool fd, .int .i64 ce, .slice chA chN chC, .int .i64 lv, .slice bkA bkN bkC, .slice dgA 0 dgC, .int .i64 ix, .bool la, .slice pcA 0 pcC, .int .i64 t1, .int .i64 t2, .int .i64 t3] 49)) (.cells #[.int .i64 kd, .int .i64 fr, .int .i64 tt, .int .i64 ep, .int .i64 att, .int .i64 cl, .int .i64 nu, .int .i64 sq, .string key, .int .i64 ok, .string okey, .string oval, .int .i64 over, .int .i64 us, .int .i64 ucl, .int .i64 un, .int .i64 uk, .string ukey, .string uval, .int .i64 uver, .int .i64 rc, .int .i64 rv, .string wkey, .string wval, .int .i64 wver, .bool fd, .int .i64 ce, .slice chA chN chC, .int .i64 lv, .slice bkA bkN bkC, .slice dgA 0 dgC, .int .i64 ix, .bool la, .slice pcA 0 pcC, .int .i64 t1, .int .i64 t2, .int .i64 t3] 49))
  have QB := Aside0.mk (new2 W (.cells #[.int .i64 kd, .int .i64 fr, .int .i64 tt, .int .i64 ep, .int .i64 att, .int .i64 cl, .int .i64 nu, .int .i64 sq, .string key, .int .i64 ok, .string okey, .string oval, .int .i64 over, .int .i64 us, .int .i64 ucl, .int .i64 un, .int .i64 uk, .string ukey, .string uval, .int .i64 uver, .int .i64 rc, .int .i64 rv, .string wkey, .string wval, .int .i64 wver, .bool fd, .int .i64 ce, .slice chA chN chC, .int .i64 lv, .slice bkA bkN bkC, .slice dgA 0 dgC, .int .i64 ix, .bool la, .slice pcA 0 pcC, .int .i64 t1, .int .i64 t2, .int .i64 t3] 49) (.cells #[.int .i64 kd, .int .i64 fr, .int .i64 tt, .int .i64 ep, .int .i64 att, .int .i64 cl, .int .i64 nu, .int .i64 sq, .string key, .int .i64 ok, .string okey, .string oval, .int .i64 over, .int .i64 us, .int .i64 ucl, .int .i64 un, .int .i64 uk, .string ukey, .string uval, .int .i64 uver, .int .i64 rc, .int .i64 rv, .string wkey, .string wval, .int .i64 wver, .bool fd, .int .i64 ce, .slice chA chN chC, .int .i64 lv, .slice bkA bkN bkC, .slice dgA 0 dgC, .int .i64 ix, .bool la, .slice pcA 0 pcC, .int .i64 t1, .int .i64 t2, .int .i64 t3] 49))
  have HR1 := Aside0.mk (HR.out.below HB.out)
  clear HR
  have HR := HR1
  clear HR1
  simp only [Mg.cells]
  go_enter Tryz.func25, Tryz.ntmps25
  go_wp2_with (first | (go_at_call 62; (with_reducible refine (eqInt_calls _ _ _ _ l.ch HR.out.ch HR.out.chn HR.out.chc HN.out.1).mono ?_); rintro e w3 ⟨rfl, hb⟩; (have R2 := Aside0.mk (HR.out.below hb)); (have B2 := Aside0.mk (HB.out.trans (below_weaken' hb HB.out.size))); (have P2 := Aside0.mk (blk_below QA.out hb)); (have P3 := Aside0.mk (blk_below QB.out hb)); clear hb HR HB QA QB; (have HR := R2); (have HB := B2); (have QA := P2); (have QB := P3); clear R2 B2 P2 P3; (have xw329 : w3.cell? ⟨W.heap.size, 29, none⟩ = some (.slice bkA bkN bkC) := blk_cell QA.out 29); (have yw329 : w3.cell? ⟨W.heap.size + 1, 29, none⟩ = some (.slice bkA bkN bkC) := blk_cell QB.out 29);  skip) | (go_at_call 62; (with_reducible refine (eqInt_calls _ _ _ _ l.bk HR.out.bk HR.out.bkn HR.out.bkc HN.out.2).mono ?_); rintro e w4 ⟨rfl, hb⟩; (have R2 := Aside0.mk (HR.out.below hb)); (have B2 := Aside0.mk (HB.out.trans (below_weaken' hb HB.out.size))); (have P2 := Aside0.mk (blk_below QA.out hb)); (have P3 := Aside0.mk (blk_below QB.out hb)); clear hb HR HB QA QB; (have HR := R2); (have HB := B2); (have QA := P2); (have QB := P3); clear R2 B2 P2 P3; (have xw430 : w4.cell? ⟨W.heap.size, 30, none⟩ = some (.slice dgA 0 dgC) := blk_cell QA.out 30); (have xw431 : w4.cell? ⟨W.heap.size, 31, none⟩ = some (.int .i64 ix) := blk_cell QA.out 31); (have xw432 : w4.cell? ⟨W.heap.size, 32, none⟩ = some (.bool la) := blk_cell QA.out 32); (have xw433 : w4.cell? ⟨W.heap.size, 33, none⟩ = some (.slice pcA 0 pcC) := blk_cell QA.out 33); (have yw430 : w4.cell? ⟨W.heap.size + 1, 30, none⟩ = some (.slice dgA 0 dgC) := blk_cell QB.out 30); (have yw431 : w4.cell? ⟨W.heap.size + 1, 31, none⟩ = some (.int .i64 ix) := blk_cell QB.out 31); (have yw432 : w4.cell? ⟨W.heap.size + 1, 32, none⟩ = some (.bool la) := blk_cell QB.out 32); (have yw433 : w4.cell? ⟨W.heap.size + 1, 33, none⟩ = some (.slice pcA 0 pcC) := blk_cell QB.out 33);  skip) | (go_at_call 63; refine (eqDig0 _ _ _ _ _).mono ?_; rintro e w5 ⟨rfl, rfl⟩) | (go_at_call 64; refine (eqChu0 _ _ _ _ _).mono ?_; rintro e w6 ⟨rfl, hb⟩; (have R2 := Aside0.mk (HR.out.below hb)); (have B2 := Aside0.mk (HB.out.trans (below_weaken' hb HB.out.size))); (have P2 := Aside0.mk (blk_below QA.out hb)); (have P3 := Aside0.mk (blk_below QB.out hb)); clear hb HR HB QA QB; (have HR := R2); (have HB := B2); (have QA := P2); (have QB := P3); clear R2 B2 P2 P3; (have xw60 : w6.cell? ⟨W.heap.size, 0, none⟩ = some (.int .i64 kd) := blk_cell QA.out 0); (have xw61 : w6.cell? ⟨W.heap.size, 1, none⟩ = some (.int .i64 fr) := blk_cell QA.out 1); (have xw62 : w6.cell? ⟨W.heap.size, 2, none⟩ = some (.int .i64 tt) := blk_cell QA.out 2); (have xw63 : w6.cell? ⟨W.heap.size, 3, none⟩ = some (.int .i64 ep) := blk_cell QA.out 3); (have xw64 : w6.cell? ⟨W.heap.size, 4, none⟩ = some (.int .i64 att) := blk_cell QA.out 4); (have xw65 : w6.cell? ⟨W.heap.size, 5, none⟩ = some (.int .i64 cl) := blk_cell QA.out 5); (have xw66 : w6.cell? ⟨W.heap.size, 6, none⟩ = some (.int .i64 nu) := blk_cell QA.out 6); (have xw67 : w6.cell? ⟨W.heap.size, 7, none⟩ = some (.int .i64 sq) := blk_cell QA.out 7); (have xw68 : w6.cell? ⟨W.heap.size, 8, none⟩ = some (.string key) := blk_cell QA.out 8); (have xw69 : w6.cell? ⟨W.heap.size, 9, none⟩ = some (.int .i64 ok) := blk_cell QA.out 9); (have xw610 : w6.cell? ⟨W.heap.size, 10, none⟩ = some (.string okey) := blk_cell QA.out 10); (have xw611 : w6.cell? ⟨W.heap.size, 11, none⟩ = some (.string oval) := blk_cell QA.out 11); (have xw612 : w6.cell? ⟨W.heap.size, 12, none⟩ = some (.int .i64 over) := blk_cell QA.out 12); (have xw613 : w6.cell? ⟨W.heap.size, 13, none⟩ = some (.int .i64 us) := blk_cell QA.out 13); (have xw614 : w6.cell? ⟨W.heap.size, 14, none⟩ = some (.int .i64 ucl) := blk_cell QA.out 14); (have xw615 : w6.cell? ⟨W.heap.size, 15, none⟩ = some (.int .i64 un) := blk_cell QA.out 15); (have xw616 : w6.cell? ⟨W.heap.size, 16, none⟩ = some (.int .i64 uk) := blk_cell QA.out 16); (have xw617 : w6.cell? ⟨W.heap.size, 17, none⟩ = some (.string ukey) := blk_cell QA.out 17); (have xw618 : w6.cell? ⟨W.heap.size, 18, none⟩ = some (.string uval) := blk_cell QA.out 18); (have xw619 : w6.cell? ⟨W.heap.size, 19, none⟩ = some (.int .i64 uver) := blk_cell QA.out 19); (have xw620 : w6.cell? ⟨W.heap.size, 20, none⟩ = some (.int .i64 rc) := blk_cell QA.out 20); (have xw621 : w6.cell? ⟨W.heap.size, 21, none⟩ = some (.int .i64 rv) := blk_cell QA.out 21); (have xw622 : w6.cell? ⟨W.heap.size, 22, none⟩ = some (.string wkey) := blk_cell QA.out 22); (have xw623 : w6.cell? ⟨W.heap.size, 23, none⟩ = some (.string wval) := blk_cell QA.out 23); (have xw624 : w6.cell? ⟨W.heap.size, 24, none⟩ = some (.int .i64 wver) := blk_cell QA.out 24); (have xw625 : w6.cell? ⟨W.heap.size, 25, none⟩ = some (.bool fd) := blk_cell QA.out 25); (have xw626 : w6.cell? ⟨W.heap.size, 26, none⟩ = some (.int .i64 ce) := blk_cell QA.out 26); (have xw627 : w6.cell? ⟨W.heap.size, 27, none⟩ = some (.slice chA chN chC) := blk_cell QA.out 27); (have xw628 : w6.cell? ⟨W.heap.size, 28, none⟩ = some (.int .i64 lv) := blk_cell QA.out 28); (have xw629 : w6.cell? ⟨W.heap.size, 29, none⟩ = some (.slice bkA bkN bkC) := blk_cell QA.out 29); (have xw630 : w6.cell? ⟨W.heap.size, 30, none⟩ = some (.slice dgA 0 dgC) := blk_cell QA.out 30); (have xw631 : w6.cell? ⟨W.heap.size, 31, none⟩ = some (.int .i64 ix) := blk_cell QA.out 31); (have xw632 : w6.cell? ⟨W.heap.size, 32, none⟩ = some (.bool la) := blk_cell QA.out 32); (have xw633 : w6.cell? ⟨W.heap.size, 33, none⟩ = some (.slice pcA 0 pcC) := blk_cell QA.out 33); (have xw634 : w6.cell? ⟨W.heap.size, 34, none⟩ = some (.int .i64 t1) := blk_cell QA.out 34); (have xw635 : w6.cell? ⟨W.heap.size, 35, none⟩ = some (.int .i64 t2) := blk_cell QA.out 35); (have xw636 : w6.cell? ⟨W.heap.size, 36, none⟩ = some (.int .i64 t3) := blk_cell QA.out 36); (have yw60 : w6.cell? ⟨W.heap.size + 1, 0, none⟩ = some (.int .i64 kd) := blk_cell QB.out 0); (have yw61 : w6.cell? ⟨W.heap.size + 1, 1, none⟩ = some (.int .i64 fr) := blk_cell QB.out 1); (have yw62 : w6.cell? ⟨W.heap.size + 1, 2, none⟩ = some (.int .i64 tt) := blk_cell QB.out 2); (have yw63 : w6.cell? ⟨W.heap.size + 1, 3, none⟩ = some (.int .i64 ep) := blk_cell QB.out 3); (have yw64 : w6.cell? ⟨W.heap.size + 1, 4, none⟩ = some (.int .i64 att) := blk_cell QB.out 4); (have yw65 : w6.cell? ⟨W.heap.size + 1, 5, none⟩ = some (.int .i64 cl) := blk_cell QB.out 5); (have yw66 : w6.cell? ⟨W.heap.size + 1, 6, none⟩ = some (.int .i64 nu) := blk_cell QB.out 6); (have yw67 : w6.cell? ⟨W.heap.size + 1, 7, none⟩ = some (.int .i64 sq) := blk_cell QB.out 7); (have yw68 : w6.cell? ⟨W.heap.size + 1, 8, none⟩ = some (.string key) := blk_cell QB.out 8); (have yw69 : w6.cell? ⟨W.heap.size + 1, 9, none⟩ = some (.int .i64 ok) := blk_cell QB.out 9); (have yw610 : w6.cell? ⟨W.heap.size + 1, 10, none⟩ = some (.string okey) := blk_cell QB.out 10); (have yw611 : w6.cell? ⟨W.heap.size + 1, 11, none⟩ = some (.string oval) := blk_cell QB.out 11); (have yw612 : w6.cell? ⟨W.heap.size + 1, 12, none⟩ = some (.int .i64 over) := blk_cell QB.out 12); (have yw613 : w6.cell? ⟨W.heap.size + 1, 13, none⟩ = some (.int .i64 us) := blk_cell QB.out 13); (have yw614 : w6.cell? ⟨W.heap.size + 1, 14, none⟩ = some (.int .i64 ucl) := blk_cell QB.out 14); (have yw615 : w6.cell? ⟨W.heap.size + 1, 15, none⟩ = some (.int .i64 un) := blk_cell QB.out 15); (have yw616 : w6.cell? ⟨W.heap.size + 1, 16, none⟩ = some (.int .i64 uk) := blk_cell QB.out 16); (have yw617 : w6.cell? ⟨W.heap.size + 1, 17, none⟩ = some (.string ukey) := blk_cell QB.out 17); (have yw618 : w6.cell? ⟨W.heap.size + 1, 18, none⟩ = some (.string uval) := blk_cell QB.out 18); (have yw619 : w6.cell? ⟨W.heap.size + 1, 19, none⟩ = some (.int .i64 uver) := blk_cell QB.out 19); (have yw620 : w6.cell? ⟨W.heap.size + 1, 20, none⟩ = some (.int .i64 rc) := blk_cell QB.out 20); (have yw621 : w6.cell? ⟨W.heap.size + 1, 21, none⟩ = some (.int .i64 rv) := blk_cell QB.out 21); (have yw622 : w6.cell? ⟨W.heap.size + 1, 22, none⟩ = some (.string wkey) := blk_cell QB.out 22); (have yw623 : w6.cell? ⟨W.heap.size + 1, 23, none⟩ = some (.string wval) := blk_cell QB.out 23); (have yw624 : w6.cell? ⟨W.heap.size + 1, 24, none⟩ = some (.int .i64 wver) := blk_cell QB.out 24); (have yw625 : w6.cell? ⟨W.heap.size + 1, 25, none⟩ = some (.bool fd) := blk_cell QB.out 25); (have yw626 : w6.cell? ⟨W.heap.size + 1, 26, none⟩ = some (.int .i64 ce) := blk_cell QB.out 26); (have yw627 : w6.cell? ⟨W.heap.size + 1, 27, none⟩ = some (.slice chA chN chC) := blk_cell QB.out 27); (have yw628 : w6.cell? ⟨W.heap.size + 1, 28, none⟩ = some (.int .i64 lv) := blk_cell QB.out 28); (have yw629 : w6.cell? ⟨W.heap.size + 1, 29, none⟩ = some (.slice bkA bkN bkC) := blk_cell QB.out 29); (have yw630 : w6.cell? ⟨W.heap.size + 1, 30, none⟩ = some (.slice dgA 0 dgC) := blk_cell QB.out 30); (have yw631 : w6.cell? ⟨W.heap.size + 1, 31, none⟩ = some (.int .i64 ix) := blk_cell QB.out 31); (have yw632 : w6.cell? ⟨W.heap.size + 1, 32, none⟩ = some (.bool la) := blk_cell QB.out 32); (have yw633 : w6.cell? ⟨W.heap.size + 1, 33, none⟩ = some (.slice pcA 0 pcC) := blk_cell QB.out 33); (have yw634 : w6.cell? ⟨W.heap.size + 1, 34, none⟩ = some (.int .i64 t1) := blk_cell QB.out 34); (have yw635 : w6.cell? ⟨W.heap.size + 1, 35, none⟩ = some (.int .i64 t2) := blk_cell QB.out 35); (have yw636 : w6.cell? ⟨W.heap.size + 1, 36, none⟩ = some (.int .i64 t3) := blk_cell QB.out 36);  skip) | go_in)
  go_ret
  exact ⟨by simp, HB.out⟩
end Msg

end Go.Proofs.YtepkaaplhcbkbaaGreat.G
