import Derived.Test.YtidijiijciokpaaK1
import Derived.Maps.OwnOps
import Derived.WideMake
import Derived.Laws.IdiomRangeMap
import Derived.Maps.AppendAt
import Derived.Deep.RegionLaw
import Derived.ArgAppend
import Derived.Maps.RangeRun
import Derived.Deep.Upon
import Derived.Deep.QuietTactic
import Derived.BigQuiet
import Derived.Deep.RegionHeld3
import Derived.Deep.DeepCutAuto
import Derived.Deep.CutBlock
import Derived.Laws.EntriesVeiled
import Derived.StillTailTactics
import Derived.Laws.Tables
import Derived.Laws.CopyOwn
import Derived.IntWalk
import Derived.Test.YtidijiijciokpaaBlocks
import Derived.Laws.CopyOwn
import Derived.Laws.Tables
import Derived.Outline
namespace Go.Proofs.Ytidijiijciokpaa.G
open Go.RowKit Go.Proofs.YtidijiijciokpaaW.PrintWords Go.Proofs.YtidijiijciokpaaW.PrintLast Go.Proofs.YtidijiijciokpaaW.PrintMore
set_option linter.unusedVariables false
set_option linter.unusedSimpArgs false
namespace Gd
open Go.Proofs.Ytidijiijciokpaa.Blocks Frm
set_option maxRecDepth 100000
theorem neqmap (w : World) (a : Nat) : (binOp .neq 87 (.map (some a)) (.map none)).run Try.prog w = .ok (.bool true) w := by
  have h1 : ∀ d : Nat, (Op.equalIn (d + 1) 87 (.map (some a)) (.map none)).run Try.prog w = .ok false w := fun d => by
    simp [Op.equalIn, run_underlying Try.underlying87]
  simp only [binOp]
  simp [Op.equal, Op.maxDepth, h1 9999]
section
variable {W : World} {R : Nat → Prop} {dp mp lp : Nat} {sv : Value} {ss : List Value} {d : Ab}
theorem made_calls (h : Dm W R dp mp lp sv ss d) : Calls Try.prog 47 #[.pointer (some ⟨dp, 0, none⟩)] W fun e w' => e = .returned (.bool true) ∧ w' = W := by
  have hc1 : W.cell? ⟨dp, 1, none⟩ = some (.map (some mp)) := blk_cell h.dsk 1
  have hne := neqmap W mp
  clear h
  go_enter Try.func47, Try.ntmps47
  go_wp2
  go_ret
  exact ⟨rfl, rfl⟩
theorem ret_i {a b : Int} (h : a = b) : Ending.returned (.int .i64 a) = .returned (.int .i64 b) := by rw [h]
/-- Why an act can't be asked for. -/
def rdy (d : Ab) (ns : List ByteArray) : Int := if d.down then 125 else if ns.all isNm then 0 else 120
set_option maxHeartbeats 1000000 in
theorem ready_calls (h : Dm W R dp mp lp sv ss d) (A : Option Addr) (c : Nat) (ns : List ByteArray) (hC : Kd.C Kd.string W A ns.length ns) (hl : ns.length ≤ 1099511627776) (hs : ∀ n ∈ ns, n.size ≤ 9223372036854775807) : Calls Try.prog 52 #[.pointer (some ⟨dp, 0, none⟩), .slice A ns.length c] W fun e w' => e = .returned (.int .i64 (rdy d ns)) ∧ w' = W := by
  have hc7 : W.cell? ⟨dp, 7, none⟩ = some (.bool d.down) := blk_cell h.dsk 7
  have HD := Aside0.mk h
  have HC := Aside0.mk hC
  have HS := Aside0.mk hs
  have HL := Aside0.mk hl
  clear h hC hs hl
  rcases hdn : d.down with _ | _
  · have HR := Aside0.mk (show rdy d ns = if ns.all isNm then 0 else 120 by simp [rdy, hdn])
    rw [hdn] at hc7
    clear hdn
    go_enter Try.func52, Try.ntmps52
    go_wp2_with (first | (go_at_call 47; refine (made_calls HD.out).mono ?_; rintro e w2 ⟨rfl, hw⟩; obtain rfl := hw.symm) | fail)
    go_loop [16] (fun i => ∃ k : Nat, i = .int .i64 (k : Int) ∧ Aside0 (k ≤ ns.length ∧ (ns.take k).all isNm = true)) (fun i => ns.length - (intOf i).toNat)
    case atStart => exact ⟨0, rfl, ⟨Nat.zero_le _, rfl⟩⟩
    case round =>
      obtain ⟨k, rfl, HK⟩ := hrel
      by_cases hlt : k < ns.length
      · have hw : IntKind.i64.wrap ((k : Int) + 1) = (k : Int) + 1 := IntWalk.i64_in _ (by have := HL.out; omega)
        obtain ⟨ad, cc, rfl, hcl, hK, hcell⟩ := Kd.C_get HC.out (⟨#[]⟩ : ByteArray) (k : Int) (by omega) (by omega)
        have hKs : cc = [Value.string (ns.getD k ⟨#[]⟩)] := hK
        have hg : ns.getD k ⟨#[]⟩ = ns[k] := by simp [List.getD, List.getElem?_eq_getElem hlt]
        rw [hg] at hKs
        subst hKs
        have hcl0 : W.cell? (ad.add k) = some (.string ns[k]) := by
          have := hcell 0 _ rfl
          simpa [show Kd.string.sz = 1 from rfl] using this
        have hsn := Aside0.mk (HS.out ns[k] (List.getElem_mem hlt))
        have hki : (k : Int) < (ns.length : Int) := by omega
        clear hcell hK hg hcl
        rcases hn : isNm ns[k] with _ | _
        · have HN := Aside0.mk (show rdy d ns = 120 by
            rw [HR.out, if_neg]
            rw [Bool.not_eq_true, List.all_eq_false]
            exact ⟨ns[k], List.getElem_mem hlt, by simp [hn]⟩)
          go_wp2_with (first | (go_at_call 56; refine (isName_calls _ _ hsn.out).mono ?_; rw [hn]; rintro e w2 ⟨rfl, hw⟩; obtain rfl := hw.symm) | fail)
          go_ret
          exact ⟨ret_i HN.out.symm, rfl⟩
        · have HT := Aside0.mk (show (ns.take (k + 1)).all isNm = true by
            rw [List.take_succ_eq_append_getElem hlt, List.all_append, HK.out.2]
            simp [hn])
          go_wp2_with (first | (go_at_call 56; refine (isName_calls _ _ hsn.out).mono ?_; rw [hn]; rintro e w2 ⟨rfl, hw⟩; obtain rfl := hw.symm) | fail)
          go_round
          case rel => exact ⟨k + 1, by go_num, ⟨by omega, HT.out⟩⟩
          case measure => simp [intOf]; omega
      · have hk : k = ns.length := by have := HK.out.1; omega
        subst hk
        have HN := Aside0.mk (show rdy d ns = 0 by rw [HR.out, ← HK.out.2, List.take_length]; simp [HK.out.2])
        go_wp2
        go_ret
        exact ⟨ret_i HN.out.symm, rfl⟩
  · have HR := Aside0.mk (show rdy d ns = 125 by simp [rdy, hdn])
    rw [hdn] at hc7
    clear hdn
    go_enter Try.func52, Try.ntmps52
    go_wp2_with (first | (go_at_call 47; refine (made_calls HD.out).mono ?_; rintro e w2 ⟨rfl, hw⟩; obtain rfl := hw.symm) | fail)
    go_ret
    exact ⟨ret_i HR.out.symm, rfl⟩
theorem has_calls (h : Dm W R dp mp lp sv ss d) (n : ByteArray) : Calls Try.prog 90 #[.pointer (some ⟨dp, 0, none⟩), .string n] W fun e w' => e = .returned (.bool (get d.seen n).isSome) ∧ w' = W := by
  have hc1 : W.cell? ⟨dp, 1, none⟩ = some (.map (some mp)) := blk_cell h.dsk 1
  rcases hg : get d.seen n with _ | b
  · have hl := (h.seen.none hg).1
    clear h hg
    go_enter Try.func90, Try.ntmps90
    go_wp2
    go_ret
    exact ⟨rfl, rfl⟩
  · obtain ⟨v, _, hl, _⟩ := h.seen.look hg
    clear h hg
    go_enter Try.func90, Try.ntmps90
    go_wp2
    go_ret
    exact ⟨rfl, rfl⟩
def thr (d : Ab) (n : ByteArray) (more : List ByteArray) : Int := if rdy d (n :: more) ≠ 0 then rdy d (n :: more) else if get d.seen n = none then 121 else 0
theorem info_str : (Try.prog.info? 9).map (fun i => (i.zero, i.size, i.bytes)) = some (some (.string ⟨#[]⟩), 1, 16) := by kernel_rfl
theorem row_one (W : World) (n : ByteArray) (ok : Nat → Prop) (hok : ok W.heap.size) : Kd.R Kd.string 9 (W.alloc (.cells #[.string n] 9)) W.heap.size ok (.slice (some ⟨W.heap.size, 0, none⟩) 1 1) [n] := by
  refine Kd.R_of_own (enc := Value.string) ?_ (fun k hk => ?_)
  · exact ⟨rfl, .inr ⟨W.heap.size, 1, #[.string n], rfl, Nat.le_refl _, blk_new W _, Nat.le_refl _, by simp [maxLen], rfl, rfl⟩⟩
  · have : W.heap.size = k := by simpa [Value.ownBlock] using hk
    exact this ▸ hok
set_option maxHeartbeats 1000000 in
theorem there_calls (h : Dm W R dp mp lp sv ss d) (n : ByteArray) (A : Option Addr) (c : Nat) (ns : List ByteArray) (hC : Kd.C Kd.string W A ns.length ns) (hl : ns.length ≤ 1048576) (hs : ∀ m ∈ n :: ns, m.size ≤ 9223372036854775807) : Calls Try.prog 65 #[.pointer (some ⟨dp, 0, none⟩), .string n, .slice A ns.length c] W fun e w' => e = .returned (.int .i64 (thr d n ns)) ∧ Below W.heap.size W w' := by
  have hB := below_alloc (Below.refl W.heap.size W) (.cells #[.string n] 9)
  have HD := Aside0.mk (h.below hB)
  have HS := Aside0.mk (row_one W n (fun k => W.heap.size ≤ k) (Nat.le_refl _))
  have HC := Aside0.mk (Kd.C_below hC hB)
  have HB := Aside0.mk hB
  have HZ := Aside0.mk (And.intro hs hl)
  have HF := Aside0.mk h.flt
  clear h hC hs hB hl
  rcases hr : decide (rdy d (n :: ns) = 0) with _ | _
  · have hr0 : rdy d (n :: ns) ≠ 0 := by simpa using hr
    have hE := Aside0.mk (show thr d n ns = rdy d (n :: ns) by simp only [thr]; rw [if_pos hr0])
    have hne : (rdy d (n :: ns) != 0) = true := by simpa using hr0
    have hne2 : (rdy d (n :: ns) == 0) = false := by simpa using hr0
    clear hr
    go_enter Try.func65, Try.ntmps65
    go_wp2_with (first
      | ((with_reducible refine gate_builtin (b := .append) (xs := #[.tmp 10, .tmp 11]) rfl ?_); refine Kd.R_append_rows Kd.string (w0 := W) W.heap.size rfl (.tmp 10) (.tmp 11) 52 9 (.string ⟨#[]⟩) 16 rfl Try.underlying52 info_str rfl (by decide) (by omega) (.slice (some ⟨W.heap.size, 0, none⟩) 1 1) [n] ns A ns.length c (fun k_ => W.heap.size ≤ k_) (fun _ => False) ?s_ ?x_ HS.out HC.out (fun _ _ h => h) (fun _ hk => hk.elim) ?f_ HB.out HB.out.size (by have := HZ.out.2; simp only [List.length_singleton]; omega) ?_; (case s_ => go_simp); (case x_ => go_simp); (case f_ => exact fun k_ hk => Nat.le_trans HB.out.size hk); intro v1 w1 ho1 hb1 hg1 hat1; (have HR := Aside0.mk ho1); (have HB1 := Aside0.mk hb1); (have HD1 := Aside0.mk (HD.out.keep (fun k_ q_ hl_ => hg1.block k_ hl_ (fun e_ => by have hz := HF.out k_ q_; have e2_ : some k_ = some W.heap.size := e_; injection e2_ with e2_; omega)) hg1.size)); clear ho1 hb1 hg1 hat1; obtain ⟨Ao, co, eo⟩ := Kd.R_slice HR.out; subst eo)
      | (go_at_call 52; refine (ready_calls HD1.out _ _ _ (Kd.R_reads' HR.out).2.2 (by have := HZ.out.2; simp only [List.length_append, List.length_singleton]; omega) HZ.out.1).mono ?_; rintro r w2 ⟨rfl, hw⟩; obtain rfl := hw.symm)
      | (go_at_call 90; refine (has_calls HD1.out _).mono ?_; rintro r w2 ⟨rfl, hw⟩; obtain rfl := hw.symm)
      | fail)
    go_ret
    exact ⟨ret_i hE.out.symm, HB1.out⟩
  · have hr0 : rdy d (n :: ns) = 0 := by simpa using hr
    clear hr
    rcases hg : (get d.seen n).isSome with _ | _
    · have hE := Aside0.mk (show thr d n ns = 121 by
        have : get d.seen n = none := by simpa using hg
        simp only [thr, hr0, this]
        rfl)
      have HR0 := Aside0.mk hr0
      have HG := Aside0.mk hg
      clear hr0 hg
      go_enter Try.func65, Try.ntmps65
      go_wp2_with (first
        | ((with_reducible refine gate_builtin (b := .append) (xs := #[.tmp 10, .tmp 11]) rfl ?_); refine Kd.R_append_rows Kd.string (w0 := W) W.heap.size rfl (.tmp 10) (.tmp 11) 52 9 (.string ⟨#[]⟩) 16 rfl Try.underlying52 info_str rfl (by decide) (by omega) (.slice (some ⟨W.heap.size, 0, none⟩) 1 1) [n] ns A ns.length c (fun k_ => W.heap.size ≤ k_) (fun _ => False) ?s_ ?x_ HS.out HC.out (fun _ _ h => h) (fun _ hk => hk.elim) ?f_ HB.out HB.out.size (by have := HZ.out.2; simp only [List.length_singleton]; omega) ?_; (case s_ => go_simp); (case x_ => go_simp); (case f_ => exact fun k_ hk => Nat.le_trans HB.out.size hk); intro v1 w1 ho1 hb1 hg1 hat1; (have HR := Aside0.mk ho1); (have HB1 := Aside0.mk hb1); (have HD1 := Aside0.mk (HD.out.keep (fun k_ q_ hl_ => hg1.block k_ hl_ (fun e_ => by have hz := HF.out k_ q_; have e2_ : some k_ = some W.heap.size := e_; injection e2_ with e2_; omega)) hg1.size)); clear ho1 hb1 hg1 hat1; obtain ⟨Ao, co, eo⟩ := Kd.R_slice HR.out; subst eo)
        | (go_at_call 52; refine (ready_calls HD1.out _ _ _ (Kd.R_reads' HR.out).2.2 (by have := HZ.out.2; simp only [List.length_append, List.length_singleton]; omega) HZ.out.1).mono ?_; rintro r w2 ⟨hr_, hw⟩; obtain rfl := hw.symm; (have hr2_ := hr_.trans (ret_i HR0.out)); clear hr_; subst hr2_)
        | (go_at_call 90; refine (has_calls HD1.out _).mono ?_; rw [HG.out]; rintro r w2 ⟨rfl, hw⟩; obtain rfl := hw.symm)
        | fail)
      go_ret
      exact ⟨ret_i hE.out.symm, HB1.out⟩
    · have hE := Aside0.mk (show thr d n ns = 0 by
        have : get d.seen n ≠ none := fun e => by rw [e] at hg; cases hg
        simp only [thr, hr0]
        rw [if_neg (by decide), if_neg this])
      have HR0 := Aside0.mk hr0
      have HG := Aside0.mk hg
      clear hr0 hg
      go_enter Try.func65, Try.ntmps65
      go_wp2_with (first
        | ((with_reducible refine gate_builtin (b := .append) (xs := #[.tmp 10, .tmp 11]) rfl ?_); refine Kd.R_append_rows Kd.string (w0 := W) W.heap.size rfl (.tmp 10) (.tmp 11) 52 9 (.string ⟨#[]⟩) 16 rfl Try.underlying52 info_str rfl (by decide) (by omega) (.slice (some ⟨W.heap.size, 0, none⟩) 1 1) [n] ns A ns.length c (fun k_ => W.heap.size ≤ k_) (fun _ => False) ?s_ ?x_ HS.out HC.out (fun _ _ h => h) (fun _ hk => hk.elim) ?f_ HB.out HB.out.size (by have := HZ.out.2; simp only [List.length_singleton]; omega) ?_; (case s_ => go_simp); (case x_ => go_simp); (case f_ => exact fun k_ hk => Nat.le_trans HB.out.size hk); intro v1 w1 ho1 hb1 hg1 hat1; (have HR := Aside0.mk ho1); (have HB1 := Aside0.mk hb1); (have HD1 := Aside0.mk (HD.out.keep (fun k_ q_ hl_ => hg1.block k_ hl_ (fun e_ => by have hz := HF.out k_ q_; have e2_ : some k_ = some W.heap.size := e_; injection e2_ with e2_; omega)) hg1.size)); clear ho1 hb1 hg1 hat1; obtain ⟨Ao, co, eo⟩ := Kd.R_slice HR.out; subst eo)
        | (go_at_call 52; refine (ready_calls HD1.out _ _ _ (Kd.R_reads' HR.out).2.2 (by have := HZ.out.2; simp only [List.length_append, List.length_singleton]; omega) HZ.out.1).mono ?_; rintro r w2 ⟨hr_, hw⟩; obtain rfl := hw.symm; (have hr2_ := hr_.trans (ret_i HR0.out)); clear hr_; subst hr2_)
        | (go_at_call 90; refine (has_calls HD1.out _).mono ?_; rw [HG.out]; rintro r w2 ⟨rfl, hw⟩; obtain rfl := hw.symm)
        | fail)
      go_ret
      exact ⟨ret_i hE.out.symm, HB1.out⟩
end
end Gd

namespace Gd
open Go.Proofs.Ytidijiijciokpaa.Blocks Frm
set_option maxRecDepth 100000
/-- An act is counted; does it fail? -/
def Ab.act (d : Ab) : Ab × Int := if d.fails = 0 then ({ d with acts := d.acts + 1 }, 0) else if d.fails = 1 then ({ d with acts := d.acts + 1, fails := 0 }, 124) else ({ d with acts := d.acts + 1, fails := d.fails - 1 }, 0)
section
variable {W : World} {R : Nat → Prop} {dp mp lp : Nat} {sv : Value} {ss : List Value} {d : Ab}
theorem Dm.upd (h : Dm W R dp mp lp sv ss d) {W' : World} {d' : Ab} (hb : W'.heap[dp]? = some (.cells (dcells d' mp lp sv) 90 (0, 0))) (hk : ∀ k, k ≠ dp → W'.heap[k]? = W.heap[k]?) (hs : W.heap.size ≤ W'.heap.size) (e1 : d'.seen = d.seen) (e2 : d'.lasts = d.lasts) (e3 : d'.steps = d.steps) : Dm W' R dp mp lp sv ss d' := by
  have hR : ∀ k, R k → k < W.heap.size → W'.heap[k]? = W.heap[k]? := fun k q _ => hk k fun e => h.rdp (e ▸ q)
  refine ⟨hb, e1 ▸ h.seen.keep (hk mp h.nd1) hR fun _ q => q, e2 ▸ h.lasts.keep (hk lp h.nd2) hR fun _ q => q, h.ne, own_move h.own fun k q => hk k (h.ns k q).1, e3 ▸ h.sts.keep hR fun _ q => q, fun k q => Nat.lt_of_lt_of_le (h.rlt k q) hs, h.rdp, h.rmp, h.rlp, h.rsv⟩
theorem ext_set (S : Nat → Prop) (W : World) (dp i : Nat) (v : Value) (h : S dp) : Ext S W (W.setCell ⟨dp, i, none⟩ v) S :=
  ⟨rfl, rfl, rfl, by rw [World.size_setCell]; omega, fun k _ hn => Below.heap_setCell W ⟨dp, i, none⟩ v k fun e => hn (e ▸ h), fun _ q => .inl q⟩
theorem ft_dp {R : Nat → Prop} {dp mp lp : Nat} {sv : Value} : Ft R dp mp lp sv dp := .inr (.inl rfl)
theorem Ab.Ok.acts {d : Ab} (h : d.Ok) (n : Nat) : ({ d with acts := n } : Ab).Ok := ⟨h.room, h.srt, h.good, h.seen, h.used, h.pos, h.fails⟩
theorem Ab.Ok.af {d : Ab} (h : d.Ok) (n : Nat) (f : Int) (hf : 0 ≤ f ∧ f ≤ 9223372036854775807) : ({ d with acts := n, fails := f } : Ab).Ok := ⟨h.room, h.srt, h.good, h.seen, h.used, h.pos, hf⟩
theorem Ab.act_ok {d : Ab} (h : d.Ok) : d.act.1.Ok := by
  unfold Ab.act
  split
  · exact h.acts _
  · split
    · exact h.af _ _ (by omega)
    · exact h.af _ _ (by have := h.fails; omega)
set_option maxHeartbeats 1000000 in
theorem act_calls (h : Dm W R dp mp lp sv ss d) (hf : 0 ≤ d.fails ∧ d.fails ≤ 9223372036854775807) (ha : d.acts ≤ 4611686018427387904) : Calls Try.prog 53 #[.pointer (some ⟨dp, 0, none⟩)] W fun e w => e = .returned (.int .i64 d.act.2) ∧ Dm w R dp mp lp sv ss d.act.1 ∧ Ext (Ft R dp mp lp sv) W w (Ft R dp mp lp sv) ∧ ∀ k, k ≠ dp → w.heap[k]? = W.heap[k]? := by
  have c5 : W.cell? ⟨dp, 5, none⟩ = some (.int .i64 (d.acts : Int)) := blk_cell h.dsk 5
  have c6 : W.cell? ⟨dp, 6, none⟩ = some (.int .i64 d.fails) := blk_cell h.dsk 6
  have z5 : W.frozen? ⟨dp, 5, none⟩ = false := blk_frozen h.dsk 5
  have z6 : W.frozen? ⟨dp, 6, none⟩ = false := blk_frozen h.dsk 6
  have hw : IntKind.i64.wrap ((d.acts : Int) + 1) = (d.acts : Int) + 1 := IntWalk.i64_in _ (by omega)
  by_cases f0 : d.fails = 0
  · have HP : Aside0 (d.act.2 = 0 ∧ Dm (W.setCell ⟨dp, 5, none⟩ (.int .i64 ((d.acts : Int) + 1))) R dp mp lp sv ss d.act.1 ∧ Ext (Ft R dp mp lp sv) W (W.setCell ⟨dp, 5, none⟩ (.int .i64 ((d.acts : Int) + 1))) (Ft R dp mp lp sv) ∧ ∀ k, k ≠ dp → (W.setCell ⟨dp, 5, none⟩ (.int .i64 ((d.acts : Int) + 1))).heap[k]? = W.heap[k]?) := by
      refine ⟨?_, ?_, ext_set _ _ _ _ _ ft_dp, fun k hk => Below.heap_setCell W ⟨dp, 5, none⟩ _ k hk⟩
      · simp [Ab.act, f0]
      · have e : d.act.1 = { d with acts := d.acts + 1 } := by simp [Ab.act, f0]
        rw [e]
        exact h.upd (blk_put h.dsk 5 _ rfl) (fun k hk => Below.heap_setCell W ⟨dp, 5, none⟩ _ k hk) (by rw [World.size_setCell]; omega) rfl rfl rfl
    rw [f0] at c6
    clear h hf f0
    go_enter Try.func53, Try.ntmps53
    go_wp2
    go_ret
    exact ⟨ret_i HP.out.1.symm, HP.out.2⟩
  by_cases f1 : d.fails = 1
  · have hb1 := blk_put h.dsk 5 (.int .i64 ((d.acts : Int) + 1)) rfl
    have HP : Aside0 (d.act.2 = 124 ∧ Dm ((W.setCell ⟨dp, 5, none⟩ (.int .i64 ((d.acts : Int) + 1))).setCell ⟨dp, 6, none⟩ (.int .i64 0)) R dp mp lp sv ss d.act.1 ∧ Ext (Ft R dp mp lp sv) W ((W.setCell ⟨dp, 5, none⟩ (.int .i64 ((d.acts : Int) + 1))).setCell ⟨dp, 6, none⟩ (.int .i64 0)) (Ft R dp mp lp sv) ∧ ∀ k, k ≠ dp → ((W.setCell ⟨dp, 5, none⟩ (.int .i64 ((d.acts : Int) + 1))).setCell ⟨dp, 6, none⟩ (.int .i64 0)).heap[k]? = W.heap[k]?) := by
      refine ⟨?_, ?_, (ext_set _ _ _ _ _ ft_dp).trans (ext_set _ _ _ _ _ ft_dp), fun k hk => (Below.heap_setCell _ ⟨dp, 6, none⟩ _ k hk).trans (Below.heap_setCell W ⟨dp, 5, none⟩ _ k hk)⟩
      · simp [Ab.act, f1]
      · have e : d.act.1 = { d with acts := d.acts + 1, fails := 0 } := by simp [Ab.act, f1]
        rw [e]
        exact h.upd (blk_put hb1 6 _ rfl) (fun k hk => (Below.heap_setCell _ ⟨dp, 6, none⟩ _ k hk).trans (Below.heap_setCell W ⟨dp, 5, none⟩ _ k hk)) (by rw [World.size_setCell, World.size_setCell]; omega) rfl rfl rfl
    rw [f1] at c6
    clear h hf f0 f1 hb1
    go_enter Try.func53, Try.ntmps53
    go_wp2
    go_ret
    exact ⟨ret_i HP.out.1.symm, HP.out.2⟩
  · have hb1 := blk_put h.dsk 5 (.int .i64 ((d.acts : Int) + 1)) rfl
    have HP : Aside0 (d.act.2 = 0 ∧ Dm ((W.setCell ⟨dp, 5, none⟩ (.int .i64 ((d.acts : Int) + 1))).setCell ⟨dp, 6, none⟩ (.int .i64 (d.fails - 1))) R dp mp lp sv ss d.act.1 ∧ Ext (Ft R dp mp lp sv) W ((W.setCell ⟨dp, 5, none⟩ (.int .i64 ((d.acts : Int) + 1))).setCell ⟨dp, 6, none⟩ (.int .i64 (d.fails - 1))) (Ft R dp mp lp sv) ∧ ∀ k, k ≠ dp → ((W.setCell ⟨dp, 5, none⟩ (.int .i64 ((d.acts : Int) + 1))).setCell ⟨dp, 6, none⟩ (.int .i64 (d.fails - 1))).heap[k]? = W.heap[k]?) := by
      refine ⟨?_, ?_, (ext_set _ _ _ _ _ ft_dp).trans (ext_set _ _ _ _ _ ft_dp), fun k hk => (Below.heap_setCell _ ⟨dp, 6, none⟩ _ k hk).trans (Below.heap_setCell W ⟨dp, 5, none⟩ _ k hk)⟩
      · simp [Ab.act, f0, f1]
      · have e : d.act.1 = { d with acts := d.acts + 1, fails := d.fails - 1 } := by simp [Ab.act, f0, f1]
        rw [e]
        exact h.upd (blk_put hb1 6 _ rfl) (fun k hk => (Below.heap_setCell _ ⟨dp, 6, none⟩ _ k hk).trans (Below.heap_setCell W ⟨dp, 5, none⟩ _ k hk)) (by rw [World.size_setCell, World.size_setCell]; omega) rfl rfl rfl
    have t1 : decide ((0 : Int) < d.fails) = true := decide_eq_true (by omega)
    have hw2 : IntKind.i64.wrap (d.fails - 1) = d.fails - 1 := IntWalk.i64_in _ (by omega)
    have t2 : (d.fails - 1 == 0) = false := by
      rw [beq_eq_false_iff_ne]
      omega
    have t3 : ¬ (d.fails - 1 = 0) := by omega
    clear h hf hb1 f0 f1
    go_enter Try.func53, Try.ntmps53
    go_wp2
    go_ret
    exact ⟨ret_i HP.out.1.symm, HP.out.2⟩
end
end Gd

namespace Gd
open Go.Proofs.Ytidijiijciokpaa.Blocks Frm
set_option maxRecDepth 100000
theorem dat_le {f : Fs} {n : ByteArray} (h : get f n ≠ none) : n.size + (dat f n).size ≤ taken f := by
  obtain ⟨d, hd⟩ := Option.ne_none_iff_exists'.1 h
  have h1 : dat f n = d := by simp [dat, hd]
  rw [h1]
  exact taken_mem (get_mem hd)
/-- How many bytes a change brings. -/
def St.bytes : St → Nat
  | .laid _ b => b.size
  | _ => 0
theorem do_calls {W : World} {R : Nat → Prop} {mp : Nat} {fs : Fs} (h : Fm W R mp fs) (hR : ∀ k, R k → k < W.heap.size) (hn : ¬ R mp) {v : Value} {s : St} {Q : Nat → Prop} (hv : stf W Q v s) (k : Nat) (hk : k ≤ s.count) (ho : okSt fs s) (hsz : taken fs + s.bytes ≤ 1099511627776) :
    Calls Try.prog 92 #[.map (some mp), v, .int .i64 (k : Int)] W fun e w' => e = .returned (.tuple #[]) ∧ ∃ R', Fm w' R' mp (doSt fs s k) ∧ Chg W w' R R' mp := by
  cases s with
  | created n =>
    have e : v = _ := hv
    subst e
    exact do_created h hR hn n k
  | laid n b =>
    obtain ⟨u, rfl, hu⟩ := hv
    have h1 := dat_le ho
    exact do_laid h hR hn n b u hu k hk ho (by have : (St.laid n b).bytes = b.size := rfl; omega)
  | cut n c =>
    have e : v = _ := hv
    subst e
    have h1 := dat_le ho.1
    exact do_cut h hR hn n c k ho.1 ho.2 (by omega)
  | renamed a b =>
    have e : v = _ := hv
    subst e
    exact do_renamed h hR hn a b k ho
  | removed n =>
    have e : v = _ := hv
    subst e
    exact do_removed h hR hn n k
section
variable {W : World} {R : Nat → Prop} {dp mp lp : Nat} {sv : Value} {ss : List Value} {d : Ab}
theorem Dm.did (h : Dm W R dp mp lp sv ss d) {w : World} {R' : Nat → Prop} {f' : Fs} (hf : Fm w R' mp f') (hc : Chg W w R R' mp) : Dm w R' dp mp lp sv ss { d with seen := f' } ∧ Ext (Ft R dp mp lp sv) W w (Ft R' dp mp lp sv) := by
  have hR : ∀ k, R k → k < W.heap.size → w.heap[k]? = W.heap[k]? := fun k q hl => hc.but.block k hl fun e => h.rmp (e ▸ q)
  have hout : ∀ k, k < W.heap.size → ¬ R k → ¬ R' k := fun k hl hn q => by
    rcases hc.new k q with q | q
    · exact hn q
    · omega
  refine ⟨⟨(hc.but.block dp (blk_lt h.dsk) (Ne.symm h.nd1)).trans h.dsk, hf, h.lasts.keep (hc.but.block lp h.lasts.lt (Ne.symm h.ne)) hR hc.sub, h.ne, own_move h.own fun k q => ?_, h.sts.keep hR hc.sub, hc.lt, hout _ (blk_lt h.dsk) h.rdp, hout _ h.seen.lt h.rmp, hout _ h.lasts.lt h.rlp, fun g hg => ?_⟩, hc.but.os, hc.but.tape, hc.but.output, hc.but.size, fun k hk hn => hc.but.block k hk fun e => hn (.inr (.inr (.inl e))), fun k q => ?_⟩
  · obtain ⟨c, hcc⟩ := own_typed h.own k q
    exact hc.but.block k (blk_lt hcc) (h.ns k q).2.1
  · obtain ⟨c, hcc⟩ := own_typed h.own g hg
    exact hout _ (blk_lt hcc) (h.rsv g hg)
  · rcases q with q | q | q | q | q
    · exact (hc.new k q).imp .inl id
    · exact .inl (.inr (.inl q))
    · exact .inl (.inr (.inr (.inl q)))
    · exact .inl (.inr (.inr (.inr (.inl q))))
    · exact .inl (.inr (.inr (.inr (.inr q))))
theorem Dm.used (h : Dm W R dp mp lp sv ss d) (n : Nat) : Dm (W.setCell ⟨dp, 4, none⟩ (.int .i64 (n : Int))) R dp mp lp sv ss { d with used := n } :=
  h.upd (blk_put h.dsk 4 _ rfl) (fun k hk => Below.heap_setCell W ⟨dp, 4, none⟩ _ k hk) (by rw [World.size_setCell]; omega) rfl rfl rfl
theorem Dm.more (h : Dm W R dp mp lp sv ss d) {v v' : Value} {s : St} {w : World} (hv : stf W R v s) (g1 : w.ownsRow 0 92 1 v' (ss ++ [v]).length (ss ++ [v])) (g2 : (W.alloc (.cells #[v] 92)).grownBy w sv.ownBlock) (g3 : v'.ownBlock = sv.ownBlock ∨ v'.ownBlock = some (W.alloc (.cells #[v] 92)).heap.size) :
    Dm (w.setCell ⟨dp, 3, none⟩ v') R dp mp lp v' (ss ++ [v]) { d with steps := d.steps ++ [s] } ∧ Ext (Ft R dp mp lp sv) W (w.setCell ⟨dp, 3, none⟩ v') (Ft R dp mp lp v') := by
  have hB := below_alloc (Below.refl W.heap.size W) (.cells #[v] 92)
  have hsz : (W.alloc (.cells #[v] 92)).heap.size = W.heap.size + 1 := World.size_alloc _ _
  have hk : ∀ k, k < W.heap.size → some k ≠ sv.ownBlock → w.heap[k]? = W.heap[k]? := fun k hl hn => (g2.block k (by omega) hn).trans (hB.block k hl)
  have hks : ∀ k, k < W.heap.size → some k ≠ sv.ownBlock → k ≠ dp → (w.setCell ⟨dp, 3, none⟩ v').heap[k]? = W.heap[k]? := fun k hl hn hd => (Below.heap_setCell w ⟨dp, 3, none⟩ v' k hd).trans (hk k hl hn)
  have hR : ∀ k, R k → k < W.heap.size → (w.setCell ⟨dp, 3, none⟩ v').heap[k]? = W.heap[k]? := fun k q hl => hks k hl (fun e => h.rsv k e.symm q) (fun e => h.rdp (e ▸ q))
  have hdw : w.heap[dp]? = some (.cells (dcells d mp lp sv) 90 (0, 0)) := (hk dp (blk_lt h.dsk) (fun e => (h.ns dp e.symm).1 rfl)).trans h.dsk
  have hgs : w.heap.size ≤ (w.setCell ⟨dp, 3, none⟩ v').heap.size := by rw [World.size_setCell]; omega
  have hWw : W.heap.size ≤ w.heap.size := by have := g2.size; omega
  refine ⟨⟨blk_put hdw 3 _ rfl, h.seen.keep (hks mp h.seen.lt (fun e => (h.ns mp e.symm).2.1 rfl) h.nd1) hR fun _ q => q, h.lasts.keep (hks lp h.lasts.lt (fun e => (h.ns lp e.symm).2.2 rfl) h.nd2) hR fun _ q => q, h.ne, ?_, (h.sts.snoc hv).keep hR fun _ q => q, fun k q => Nat.lt_of_lt_of_le (h.rlt k q) (Nat.le_trans hWw hgs), h.rdp, h.rmp, h.rlp, fun g hg => ?_⟩, g2.os.trans hB.os, g2.tape.trans hB.tape, g2.output.trans hB.output, Nat.le_trans hWw hgs, fun k hl hn => hks k hl (fun e => hn (.inr (.inr (.inr (.inr e.symm))))) (fun e => hn (.inr (.inl e))), fun k q => ?_⟩
  · refine own_move g1 fun k q => Below.heap_setCell w ⟨dp, 3, none⟩ v' k fun e => ?_
    obtain ⟨c, hc⟩ := own_typed g1 k q
    rw [e, hdw] at hc
    injection hc with hc
    injection hc with _ hc
    exact absurd hc (by decide)
  · rcases g3 with g3 | g3
    · exact h.rsv g (g3 ▸ hg)
    · rw [g3] at hg
      injection hg with hg
      intro q
      have := h.rlt g q
      omega
  · rcases q with q | q | q | q | q
    · exact .inl (.inl q)
    · exact .inl (.inr (.inl q))
    · exact .inl (.inr (.inr (.inl q)))
    · exact .inl (.inr (.inr (.inr (.inl q))))
    · rcases g3 with g3 | g3
      · exact .inl (.inr (.inr (.inr (.inr (g3 ▸ q)))))
      · rw [g3] at q
        injection q with q
        exact .inr (by omega)
end
end Gd

namespace Gd
open Go.Proofs.Ytidijiijciokpaa.Blocks Frm
set_option maxRecDepth 100000
theorem count_created (W : World) (n : ByteArray) : Calls Try.prog 157 #[.agg #[.string n]] W fun e w' => e = .returned (.int .i64 1) ∧ Below W.heap.size W w' := by
  have HB := Aside0.mk (below_alloc (Below.refl W.heap.size W) (.cells #[.string n] 130))
  go_enter Try.func157, Try.ntmps157
  go_wp2
  go_ret
  exact ⟨rfl, HB.out⟩
theorem count_removed (W : World) (n : ByteArray) : Calls Try.prog 161 #[.agg #[.string n]] W fun e w' => e = .returned (.int .i64 1) ∧ Below W.heap.size W w' := by
  have HB := Aside0.mk (below_alloc (Below.refl W.heap.size W) (.cells #[.string n] 139))
  go_enter Try.func161, Try.ntmps161
  go_wp2
  go_ret
  exact ⟨rfl, HB.out⟩
theorem count_cut (W : World) (n : ByteArray) (c : Int) : Calls Try.prog 159 #[.agg #[.string n, .int .i64 c]] W fun e w' => e = .returned (.int .i64 1) ∧ Below W.heap.size W w' := by
  have HB := Aside0.mk (below_alloc (Below.refl W.heap.size W) (.cells #[.string n, .int .i64 c] 136))
  go_enter Try.func159, Try.ntmps159
  go_wp2
  go_ret
  exact ⟨rfl, HB.out⟩
theorem count_renamed (W : World) (a b : ByteArray) : Calls Try.prog 160 #[.agg #[.string a, .string b]] W fun e w' => e = .returned (.int .i64 1) ∧ Below W.heap.size W w' := by
  have HB := Aside0.mk (below_alloc (Below.refl W.heap.size W) (.cells #[.string a, .string b] 138))
  go_enter Try.func160, Try.ntmps160
  go_wp2
  go_ret
  exact ⟨rfl, HB.out⟩
theorem count_laid (W : World) (n : ByteArray) (A : Option Addr) (m c : Nat) : Calls Try.prog 158 #[.agg #[.string n, .slice A m c]] W fun e w' => e = .returned (.int .i64 (m : Int)) ∧ Below W.heap.size W w' := by
  have HB := Aside0.mk (below_alloc (Below.refl W.heap.size W) (.cells #[.string n, .slice A m c] 132))
  go_enter Try.func158, Try.ntmps158
  go_wp2
  go_ret
  exact ⟨rfl, HB.out⟩
/-- A step's method. -/
theorem stf.meth {W : World} {R : Nat → Prop} {v : Value} {s : St} (h : stf W R v s) : ∃ T x fid, v = .iface T x ∧ (∀ n w, (method (n + 1) T x "hawser/disk.count").run Try.prog w = .ok (fid, x) w) ∧ (∀ (args : Array Value) (w : World), Sem.run Try.prog (callFunc fid args) w = .ok (.enter fid args) w) ∧ ∀ w, Calls Try.prog fid #[x] w fun e w' => e = .returned (.int .i64 (s.count : Int)) ∧ Below w.heap.size w w' := by
  cases s with
  | created n => exact ⟨_, _, 157, h, fun n w => by kernel_rfl, fun args w => by kernel_rfl, fun w => count_created w n⟩
  | removed n => exact ⟨_, _, 161, h, fun n w => by kernel_rfl, fun args w => by kernel_rfl, fun w => count_removed w n⟩
  | cut n c => exact ⟨_, _, 159, h, fun n w => by kernel_rfl, fun args w => by kernel_rfl, fun w => count_cut w n c⟩
  | renamed a b => exact ⟨_, _, 160, h, fun n w => by kernel_rfl, fun args w => by kernel_rfl, fun w => count_renamed w a b⟩
  | laid n b =>
    obtain ⟨u, rfl, hu⟩ := h
    obtain ⟨A, c, rfl, _⟩ := hu.form
    exact ⟨_, _, 158, rfl, fun n w => by kernel_rfl, fun args w => by kernel_rfl, fun w => count_laid w n A b.size c⟩
def Ab.step (d : Ab) (s : St) : Ab × Int := if d.act.2 = 0 then ({ d.act.1 with seen := doAll d.seen s, steps := (if 0 < s.count then d.steps ++ [s] else d.steps), used := taken (doAll d.seen s) }, 0) else d.act
theorem act_seen (d : Ab) : d.act.1.seen = d.seen ∧ d.act.1.steps = d.steps ∧ d.act.1.lasts = d.lasts ∧ d.act.1.room = d.room ∧ d.act.1.down = d.down ∧ d.act.1.used = d.used ∧ d.act.1.acts = d.acts + 1 := by
  unfold Ab.act
  split
  · exact ⟨rfl, rfl, rfl, rfl, rfl, rfl, rfl⟩
  · split <;> exact ⟨rfl, rfl, rfl, rfl, rfl, rfl, rfl⟩
theorem info_step : (Try.prog.info? 92).map (fun i => (i.zero, i.size, i.bytes)) = some (some .nilIface, 1, 16) := by kernel_rfl
theorem own_form {W : World} {base n : Nat} {e : TypeId} {u : Value} {z : List Value} (h : W.ownsRow base e 1 u n z) : ∃ A c, u = .slice A n c ∧ n ≤ c := by
  rcases h.2 with ⟨rfl, h0⟩ | ⟨g, cap, cur, rfl, _, _, hc, _⟩
  · exact ⟨none, 0, by rw [h0], by omega⟩
  · exact ⟨_, cap, rfl, hc⟩
end Gd

namespace Gd
open Go.Proofs.Ytidijiijciokpaa.Blocks Frm
set_option maxRecDepth 100000
set_option maxHeartbeats 2000000 in
theorem step_calls {W : World} {R : Nat → Prop} {dp mp lp : Nat} {sv : Value} {ss : List Value} {d : Ab} (h : Dm W R dp mp lp sv ss d) (hf : 0 ≤ d.fails ∧ d.fails ≤ 9223372036854775807) (ha : d.acts ≤ 4611686018427387904) (hst : d.steps.length ≤ 4398046511104) {v : Value} {s : St} (hv : stf W R v s) (ho : okSt d.seen s) (hsz : taken d.seen + s.bytes ≤ 1099511627776) (hsz2 : taken (doAll d.seen s) ≤ 1099511627776) :
    Calls Try.prog 91 #[.pointer (some ⟨dp, 0, none⟩), v] W fun e w => e = .returned (.int .i64 (d.step s).2) ∧ ∃ R' sv' ss', Dm w R' dp mp lp sv' ss' (d.step s).1 ∧ Ext (Ft R dp mp lp sv) W w (Ft R' dp mp lp sv') := by
  obtain ⟨T, x, fid, rfl, hme, hen, hC⟩ := hv.meth
  obtain ⟨q1, q2, q3, q4, q5, q6, q7⟩ := act_seen d
  have HA := Aside0.mk (act_calls h hf ha)
  rcases hac : decide (d.act.2 = 0) with _ | _
  · have h0 : d.act.2 ≠ 0 := by simpa using hac
    have HE := Aside0.mk (show d.step s = d.act by simp only [Ab.step]; rw [if_neg h0])
    have hne : (d.act.2 != 0) = true := by simpa using h0
    have hne2 : (d.act.2 == 0) = false := by simpa using h0
    clear h hf ha hst hv ho hsz hsz2 hme hen hC q1 q2 q3 q4 q5 q6 q7 hac
    go_enter Try.func91, Try.ntmps91
    go_wp2_with (first | (go_at_call 53; refine HA.out.mono ?_; rintro e w2 ⟨rfl, hd, hx, _⟩; (have HR := Aside0.mk (And.intro hd hx)); clear hd hx) | fail)
    go_ret
    rw [HE.out]
    exact ⟨rfl, R, sv, ss, HR.out⟩
  · have h0 : d.act.2 = 0 := by simpa using hac
    have HE := Aside0.mk (show d.step s = ({ d.act.1 with seen := doAll d.seen s, steps := (if 0 < s.count then d.steps ++ [s] else d.steps), used := taken (doAll d.seen s) }, 0) by simp only [Ab.step]; rw [if_pos h0])
    rw [h0] at HA
    have HC := Aside0.mk hC
    have HV := Aside0.mk hv
    have HO := Aside0.mk ho
    have HZ := Aside0.mk (And.intro hsz (And.intro hsz2 hst))
    have HQ := Aside0.mk (And.intro q1 (And.intro q2 (And.intro q3 (And.intro q4 q6))))
    have HL := Aside0.mk h
    have HI := Aside0.mk info_step
    generalize d.act.1 = d1 at HA HE HQ
    clear h hf ha hst hv ho hsz hsz2 q1 q2 q3 q4 q5 q6 q7 hac h0 hC
    obtain ⟨As, cs, rfl, _⟩ := own_form HL.out.own
    go_enter Try.func91, Try.ntmps91
    go_upto_region 4 with (first | (go_at_call 53; refine HA.out.mono ?_; rintro e w2 ⟨rfl, hd, hx, hk⟩; (have HD2 := Aside0.mk hd); (have HX2 := Aside0.mk hx); (have HV2 := Aside0.mk (show stf w2 R (.iface T x) s from HV.out.keep (fun k q _ => hk k (fun e => HL.out.rdp (e ▸ q))) (fun _ q => q))); clear hd hx hk) | fail)
    refine wp_region_held_drew (S := fun w' => Aside0 (w'.heap[dp]? = some (.cells (dcells d1 mp lp (.slice As ss.length cs)) 90 (0, 0)))) (by kernel_rfl) ⟨blk_drew HD2.out.dsk⟩ (fun hHeld => ?_)
    refine wpAnyH_take (i := 0) (oi := Oper.mk _ _ _ _ _ _) (v := ?v0) rfl (by kernel_rfl) (by kernel_rfl) (by kernel_rfl) (fun _ _ _ h => h) (Or.inl ⟨by rfl, ?hy0⟩) (by assumption) ?r0
    case hy0 => (intro w hSw; clear hSw; go_simp; (try with_reducible rfl))
    try simp only [Act.put, List.setIfInBounds_toArray, List.set_cons_zero, List.set_cons_succ]
    refine wpAnyH_take (i := 1) (oi := Oper.mk _ _ _ _ _ _) (v := ?v1) rfl (by kernel_rfl) (by kernel_rfl) (by kernel_rfl) (fun _ _ _ h => h) (Or.inl ⟨by rfl, ?hy1⟩) (by assumption) ?r1
    case hy1 => (intro w hSw; clear hSw; go_simp; (try with_reducible rfl))
    try simp only [Act.put, List.setIfInBounds_toArray, List.set_cons_zero, List.set_cons_succ]
    refine wpAnyH_take (i := 2) (oi := Oper.mk _ _ _ _ _ _) (v := ?v2) rfl (by kernel_rfl) (by kernel_rfl) (by kernel_rfl) (fun _ _ _ h => h) (Or.inl ⟨by rfl, ?hy2⟩) (by assumption) ?r2
    case hy2 => (intro w hSw; clear hSw; go_simp; (try with_reducible rfl))
    try simp only [Act.put, List.setIfInBounds_toArray, List.set_cons_zero, List.set_cons_succ]
    refine wpAnyH_take (i := 3) (oi := Oper.mk _ _ _ _ _ _) (v := ?v3) rfl (by kernel_rfl) (by kernel_rfl) (by kernel_rfl) (fun _ _ _ h => h) (Or.inl ⟨by rfl, ?hy3⟩) (by assumption) ?r3
    case hy3 => (intro w hSw; (have g1 : w.cell? ⟨dp, 1, none⟩ = some (.map (some mp)) := blk_cell hSw.out 1); clear hSw; go_simp; (try with_reducible rfl))
    try simp only [Act.put, List.setIfInBounds_toArray, List.set_cons_zero, List.set_cons_succ]
    refine wpAnyH_take (i := 4) (oi := Oper.mk _ _ _ _ _ _) (v := ?v4) rfl (by kernel_rfl) (by kernel_rfl) (by kernel_rfl) (fun _ _ _ h => h) (Or.inl ⟨by rfl, ?hy4⟩) (by assumption) ?r4
    case hy4 => (intro w hSw; clear hSw; go_simp; (try with_reducible rfl))
    try simp only [Act.put, List.setIfInBounds_toArray, List.set_cons_zero, List.set_cons_succ]
    refine wpAnyH_take (i := 5) (oi := Oper.mk _ _ _ _ _ _) (v := ?v5) rfl (by kernel_rfl) (by kernel_rfl) (by kernel_rfl) (fun _ _ _ h => h) (Or.inl ⟨by rfl, ?hy5⟩) (by assumption) ?r5
    case hy5 => (intro w hSw; clear hSw; go_simp; (try with_reducible rfl))
    try simp only [Act.put, List.setIfInBounds_toArray, List.set_cons_zero, List.set_cons_succ]
    refine wpAnyH_ready (rs := [6]) (by kernel_rfl) (by simp) ?_
    refine AllReadyH.cons (o := Oper.mk _ _ _ _ _ _) rfl (fun K hK => ?_) AllReadyH.nil
    go_simp
    refine (HC.out _).mono ?_
    rintro e w3 ⟨rfl, hb3⟩
    have hdr : Below w2.heap.size w2 w2.drew := Drawn0.below ⟨1, rfl⟩
    have HB3 := Aside0.mk (show Below w2.heap.size w2 w3 from hdr.trans (below_w hb3 hdr.size))
    have HD3 := Aside0.mk (HD2.out.below HB3.out)
    have HV3 := Aside0.mk (HV2.out.keep (W' := w3) (fun k _ hl => HB3.out.block k hl) (fun _ q => q))
    have HX3 := Aside0.mk (HX2.out.trans (Ext.of HB3.out))
    clear hb3 hdr HD2 HV2 HX2
    refine hK.out _ _ ⟨HD3.out.dsk⟩ (fun hHeld3 => ?_)
    clear hK K
    try simp only [Act.put, List.setIfInBounds_toArray, List.set_cons_zero, List.set_cons_succ]
    have HDo := Aside0.mk (do_calls HD3.out.seen HD3.out.rlt HD3.out.rmp HV3.out s.count (Nat.le_refl _) (by rw [HQ.out.1]; exact HO.out) (by rw [HQ.out.1]; exact HZ.out.1))
    refine wpAnyH_ready (rs := [7]) (by kernel_rfl) (by simp) ?_
    refine AllReadyH.cons (o := Oper.mk _ _ _ _ _ _) rfl (fun K hK => ?_) AllReadyH.nil
    go_simp
    refine HDo.out.mono ?_
    rintro e w4 ⟨rfl, R4, hf4, hc4⟩
    have hd4 := HD3.out.did hf4 hc4
    have HD4 := Aside0.mk hd4.1
    have HX4 := Aside0.mk (HX3.out.trans hd4.2)
    have HV4 := Aside0.mk (HV3.out.keep (W' := w4) (R' := R4) (fun k q hl => hc4.but.block k hl (fun e => HD3.out.rmp (e ▸ q))) hc4.sub)
    clear hf4 hc4 hd4 HDo HD3 HV3 HX3
    refine hK.out _ _ ⟨HD4.out.dsk⟩ (fun hHeld4 => ?_)
    clear hK K
    try simp only [Act.put, List.setIfInBounds_toArray, List.set_cons_zero, List.set_cons_succ]
    refine wpAnyH_done (by kernel_rfl) ?_ _
    rw [HQ.out.1] at HD4
    clear hHeld hHeld3 hHeld4 HB3
    rcases hcnt : decide (0 < s.count) with _ | _
    · have hz0 : s.count = 0 := by
        have : ¬ 0 < s.count := by simpa using hcnt
        omega
      have HCz := Aside0.mk (show ∀ w, Calls Try.prog fid #[x] w fun e w' => e = .returned (.int .i64 0) ∧ Below w.heap.size w w' from fun w => by
        have := HC.out w
        rw [hz0] at this
        exact this)
      have HCN := Aside0.mk (show ¬ 0 < s.count by simpa using hcnt)
      clear hcnt hz0
      go_upto_region 7 with (first
        | ((with_reducible refine (HCz.out _).mono ?_); rintro e w5 ⟨rfl, hb5⟩; (have HD5 := Aside0.mk (HD4.out.below hb5)); (have HX5 := Aside0.mk (HX4.out.trans (Ext.of hb5))); (have HV5 := Aside0.mk (HV4.out.keep (W' := w5) (fun k _ hl => hb5.block k hl) (fun _ q => q))); clear hb5)
        | fail)
      have HDT := HD5
      have HXT := HX5
      clear HD4 HX4 HV4
      have c1 : w5.cell? ⟨dp, 1, none⟩ = some (.map (some mp)) := blk_cell HDT.out.dsk 1
      go_wp2_with (first
        | (go_at_call 55; refine (takes_calls HDT.out.seen HDT.out.rlt HZ.out.2.1).mono ?_; rintro e w8 ⟨rfl, hb8⟩; (have HD8 := Aside0.mk (HDT.out.below hb8)); (have HX8 := Aside0.mk (HXT.out.trans (Ext.of hb8))); (have k4 : w8.cell? ⟨dp, 4, none⟩ = some (.int .i64 (d1.used : Int)) := blk_cell HD8.out.dsk 4); (have f4 : w8.frozen? ⟨dp, 4, none⟩ = false := blk_frozen HD8.out.dsk 4); clear hb8)
        | fail)
      go_ret
      rw [HE.out]
      refine ⟨rfl, R4, .slice As ss.length cs, ss, ?_, HX8.out.trans (ext_set _ _ _ _ _ ft_dp)⟩
      have h9 := HD8.out.used (taken (doAll d.seen s))
      rw [if_neg HCN.out]
      have e2 := HQ.out.2.1
      rw [← e2]
      exact h9
    · have hz0 : 0 < s.count := by simpa using hcnt
      have HCz : Aside0 (∃ m : Nat, 0 < m ∧ ∀ w, Calls Try.prog fid #[x] w fun e w' => e = .returned (.int .i64 (m : Int)) ∧ Below w.heap.size w w') := ⟨⟨s.count, hz0, HC.out⟩⟩
      obtain ⟨m, hm0, HCz⟩ := HCz.out
      have HCz := Aside0.mk HCz
      have HCN := Aside0.mk (show 0 < s.count by simpa using hcnt)
      clear hcnt hz0
      go_upto_region 6 with (first
        | ((with_reducible refine (HCz.out _).mono ?_); rintro e w5 ⟨rfl, hb5⟩; (have HD5 := Aside0.mk (HD4.out.below hb5)); (have HX5 := Aside0.mk (HX4.out.trans (Ext.of hb5))); (have HV5 := Aside0.mk (HV4.out.keep (W' := w5) (fun k _ hl => hb5.block k hl) (fun _ q => q))); clear hb5)
        | fail)
      clear HD4 HX4 HV4
      have c3 : w5.cell? ⟨dp, 3, none⟩ = some (.slice As ss.length cs) := blk_cell HD5.out.dsk 3
      obtain ⟨i0, hi, hzz⟩ := Option.map_eq_some_iff.1 HI.out
      simp only [Prod.mk.injEq] at hzz
      obtain ⟨hz0, hz1, hz2⟩ := hzz
      have HIx := Aside0.mk (And.intro hi (And.intro hz0 (And.intro hz1 hz2)))
      clear hi hz0 hz1 hz2
      have HBx := Aside0.mk (below_alloc (Below.refl w5.heap.size w5) (.cells #[.iface T x] 92))
      have HA5 := Aside0.mk (HD5.out.below HBx.out)
      have HNS := Aside0.mk (World.news_of_block (cs := #[.iface T x]) (t := 92) (fr := (0, 0)) (blk_new w5 (.cells #[.iface T x] 92)))
      have HLN := Aside0.mk (show ss.length ≤ 4398046511104 by rw [HL.out.sts.len]; exact HZ.out.2.2)
      go_upto_region 7 with (first
        | ((with_reducible refine gate_builtin (b := .append) (xs := #[.tmp 26, .tmp 28]) rfl ?_); at_builtin; refine wpList_append_own_at _ rfl (.tmp 26) (.tmp 28) 88 rfl 0 92 i0 .nilIface 1 16 Try.underlying88 HIx.out.1 HIx.out.2.1 HIx.out.2.2.1 HIx.out.2.2.2 rfl (by decide) (.slice As ss.length cs) ss.length ss ?s_ HA5.out.own ⟨w5.heap.size, 0, none⟩ 1 1 [.iface T x] ?x_ rfl HNS.out ?o_ (by have := HLN.out; simp only [maxLen]; omega) (by have := HLN.out; omega) (Nat.zero_le _) ?_; (case s_ => go_simp); (case x_ => go_simp); (case o_ => intro u hu; obtain rfl := List.mem_singleton.1 hu; rfl); intro v6 w6 g1 g2 _ g3; (have g1' : w6.ownsRow 0 92 1 v6 (ss ++ [Value.iface T x]).length (ss ++ [Value.iface T x]) := by rw [List.length_append]; exact g1); (have HM := Aside0.mk (HD5.out.more HV5.out g1' g2 g3)); obtain ⟨A6, c6, hv6, _⟩ := own_form g1; (have hv6_ : v6 = .slice A6 (ss.length + 1) c6 := hv6); clear hv6; subst hv6_; (have HK6 := Aside0.mk (show w6.heap[dp]? = some (.cells (dcells _ mp lp (.slice As ss.length cs)) 90 (0, 0)) from (g2.block dp (blk_lt HA5.out.dsk) (fun e => (HA5.out.ns dp e.symm).1 rfl)).trans HA5.out.dsk)); clear g1 g1' g2 g3; (have k3 : w6.cell? ⟨dp, 3, none⟩ = some (.slice As ss.length cs) := blk_cell HK6.out 3); (have f3 : w6.frozen? ⟨dp, 3, none⟩ = false := blk_frozen HK6.out 3))
        | fail)
      have HDT := Aside0.mk HM.out.1
      have HXT := Aside0.mk (HX5.out.trans HM.out.2)
      clear HK6 HM HA5 HNS HBx HD5 HX5 HV5 c3 k3 f3
      generalize w6.setCell ⟨dp, 3, none⟩ (.slice A6 (ss.length + 1) c6) = w7 at HDT HXT ⊢
      have c1 : w7.cell? ⟨dp, 1, none⟩ = some (.map (some mp)) := blk_cell HDT.out.dsk 1
      go_wp2_with (first
        | (go_at_call 55; refine (takes_calls HDT.out.seen HDT.out.rlt HZ.out.2.1).mono ?_; rintro e w8 ⟨rfl, hb8⟩; (have HD8 := Aside0.mk (HDT.out.below hb8)); (have HX8 := Aside0.mk (HXT.out.trans (Ext.of hb8))); (have k4 : w8.cell? ⟨dp, 4, none⟩ = some (.int .i64 (d1.used : Int)) := blk_cell HD8.out.dsk 4); (have f4 : w8.frozen? ⟨dp, 4, none⟩ = false := blk_frozen HD8.out.dsk 4); clear hb8)
        | fail)
      go_ret
      rw [HE.out]
      refine ⟨rfl, R4, .slice A6 (ss.length + 1) c6, ss ++ [.iface T x], ?_, HX8.out.trans (ext_set _ _ _ _ _ ft_dp)⟩
      have h9 := HD8.out.used (taken (doAll d.seen s))
      rw [if_pos HCN.out]
      have e2 := HQ.out.2.1
      rw [← e2]
      exact h9
end Gd

namespace Gd
open Go.Proofs.Ytidijiijciokpaa.Blocks Frm
set_option maxRecDepth 100000
theorem put_same {f : Fs} {n d : ByteArray} (h : Srt f) (hg : get f n = some d) : put f n d = f := by
  refine srt_ext (srt_put n d h) h ((put_perm n d h).trans ?_)
  have hm := get_mem hg
  obtain ⟨a, b, rfl⟩ := List.append_of_mem hm
  have hn := h.nodup
  rw [List.pairwise_append] at hn
  have h2 := (List.pairwise_cons.1 hn.2.1).1
  have e : del (a ++ (n, d) :: b) n = a ++ b := by
    unfold del
    rw [List.filter_append, List.filter_cons_of_neg (by simp), List.filter_eq_self.2, List.filter_eq_self.2]
    · intro p hp
      simpa using fun q => h2 p hp q.symm
    · intro p hp
      simpa using hn.2.2 p hp (n, d) (.head _)
  rw [e]
  exact List.perm_middle.symm
theorem do_none {f : Fs} {s : St} (h : Srt f) (ho : okSt f s) (hc : s.count = 0) : doAll f s = f := by
  cases s with
  | laid n b =>
    obtain ⟨d, hd⟩ := Option.ne_none_iff_exists'.1 ho
    have hb : b.size = 0 := hc
    show put f n (apB (dat f n) (cutB b b.size)) = f
    rw [show dat f n = d by simp [dat, hd], apB_nil d _ (by rw [cutB_size]; omega)]
    exact put_same h hd
  | created n => cases hc
  | cut n k => cases hc
  | renamed a b => cases hc
  | removed n => cases hc
theorem taken_created {f : Fs} {n : ByteArray} (h : Srt f) (hg : get f n = none) : taken (doAll f (.created n)) = taken f + n.size := by
  show taken (put f n ⟨#[]⟩) = _
  rw [taken_put _ _ h, del_notin (get_none hg)]
  show n.size + 0 + _ = _
  omega
theorem taken_laid {f : Fs} {n b : ByteArray} (h : Srt f) (hg : get f n ≠ none) : taken (doAll f (.laid n b)) = taken f + b.size := by
  obtain ⟨d, hd⟩ := Option.ne_none_iff_exists'.1 hg
  show taken (put f n (apB (dat f n) (cutB b b.size))) = _
  rw [show dat f n = d by simp [dat, hd], taken_put _ _ h, apB_size, cutB_size, taken_get h hd]
  omega
theorem taken_cut {f : Fs} {n : ByteArray} {k : Nat} (h : Srt f) (hg : get f n ≠ none) : taken (doAll f (.cut n k)) ≤ taken f := by
  obtain ⟨d, hd⟩ := Option.ne_none_iff_exists'.1 hg
  show taken (put f n (cutB (dat f n) k)) ≤ _
  rw [show dat f n = d by simp [dat, hd], taken_put _ _ h, cutB_size, taken_get h hd]
  omega
theorem taken_removed {f : Fs} {n : ByteArray} : taken (doAll f (.removed n)) ≤ taken f := taken_del f n
/-- The room that a renaming leaves taken. -/
def ru (f : Fs) (a b : ByteArray) : Int := (taken f : Int) - a.size + b.size - (if a ≠ b ∧ get f b ≠ none then (b.size : Int) + (dat f b).size else 0)
theorem taken_renamed {f : Fs} {a b : ByteArray} (h : Srt f) (hg : get f a ≠ none) : (taken (doAll f (.renamed a b)) : Int) = ru f a b := by
  obtain ⟨x, hx⟩ := Option.ne_none_iff_exists'.1 hg
  have hdx : dat f a = x := by simp [dat, hx]
  by_cases e : a = b
  · subst e
    have : doAll f (.renamed a a) = f := by
      show (if a = a then f else _) = f
      rw [if_pos rfl]
    rw [this]
    unfold ru
    rw [if_neg (by simp)]
    omega
  · have h1 : doAll f (.renamed a b) = del (put f b x) a := by
      show (if a = b then f else del (put f b (dat f a)) a) = _
      rw [if_neg e, hdx]
    have h2 : get (put f b x) a = some x := by rw [get_put_ne x h e]; exact hx
    have h3 := taken_get (srt_put b x h) h2
    have h4 := taken_put b x h
    rw [h1]
    unfold ru
    rcases hb : get f b with _ | y
    · rw [if_neg (by simp)]
      rw [del_notin (get_none hb)] at h4
      omega
    · have h5 := taken_get h hb
      rw [if_pos ⟨e, by simp⟩, show dat f b = y by simp [dat, hb]]
      omega
theorem Ab.step_ok {d : Ab} (h : d.Ok) {s : St} (ho : okSt d.seen s) (hr : taken (doAll d.seen s) ≤ d.room) : (d.step s).1.Ok := by
  unfold Ab.step
  have ha := Ab.act_ok h
  obtain ⟨q1, q2, q3, q4, q5, q6, q7⟩ := act_seen d
  have hsr : Srt d.seen := by rw [h.seen]; exact srt_fold _ h.srt
  split
  · refine ⟨ha.room, ha.srt, ?_, ?_, rfl, ?_, ha.fails⟩
    · show good d.act.1.room d.act.1.lasts (if 0 < s.count then d.steps ++ [s] else d.steps)
      rw [q3, q4]
      split
      · exact good_snoc h.good (by rw [← h.seen]; exact ho) (by rw [← h.seen]; exact hr)
      · exact h.good
    · show doAll d.seen s = (if 0 < s.count then d.steps ++ [s] else d.steps).foldl doAll d.act.1.lasts
      rw [q3]
      split
      · rw [List.foldl_append, ← h.seen]
        rfl
      · rename_i hc
        rw [do_none hsr ho (by omega)]
        exact h.seen
    · show ∀ t ∈ (if 0 < s.count then d.steps ++ [s] else d.steps), 0 < t.count
      split
      · rename_i hc
        intro t ht
        rcases List.mem_append.1 ht with ht | ht
        · exact h.pos t ht
        · obtain rfl := List.mem_singleton.1 ht
          exact hc
      · exact h.pos
  · exact ha
theorem Ab.Ok.seenSrt {d : Ab} (h : d.Ok) : Srt d.seen := by rw [h.seen]; exact srt_fold _ h.srt
theorem Ab.Ok.seenLe {d : Ab} (h : d.Ok) : taken d.seen ≤ d.room := by rw [h.seen]; exact good_last h.good
theorem keepE {W w : World} {S : Nat → Prop} {dp : Nat} {d : Ab} (h : Dk W S dp d) (hB : Below W.heap.size W w) : ∃ S', Dk w S' dp d ∧ Ext S W w S' := ⟨S, h.below hB, Ext.of hB⟩
theorem lift {W w2 w : World} {S R R' : Nat → Prop} {dp mp lp mp' lp' : Nat} {sv sv' : Value} {ss' : List Value} {d' : Ab} (hS : ∀ k, Ft R dp mp lp sv k → S k) (hl : ∀ k, S k → k < W.heap.size) (hB : Below W.heap.size W w2) (h1 : Dm w R' dp mp' lp' sv' ss' d') (h2 : Ext (Ft R dp mp lp sv) w2 w (Ft R' dp mp' lp' sv')) (ok : d'.Ok) : ∃ S', Dk w S' dp d' ∧ Ext S W w S' := by
  refine ⟨fun k => Ft R' dp mp' lp' sv' k ∨ S k, ⟨R', mp', lp', sv', ss', h1, ok, fun k q => .inl q, fun k q => ?_⟩, h2.os.trans hB.os, h2.tape.trans hB.tape, h2.output.trans hB.output, Nat.le_trans hB.size h2.size, fun k hk hn => (h2.block k (Nat.lt_of_lt_of_le hk hB.size) (fun q => hn (hS k q))).trans (hB.block k hk), fun k q => ?_⟩
  · rcases q with q | q
    · exact h1.flt k q
    · have := hl k q
      have := hB.size
      have := h2.size
      omega
  · rcases q with q | q
    · rcases h2.new k q with q | q
      · exact .inl (hS k q)
      · exact .inr (Nat.le_trans hB.size q)
    · exact .inl q
end Gd

namespace Gd
open Go.Proofs.Ytidijiijciokpaa.Blocks Frm
set_option maxRecDepth 100000
/-- What the counts of a disk bear. -/
def pend (ss : List St) : Nat := (ss.map St.count).sum
def Ab.Bd (d : Ab) : Prop := d.acts ≤ 4611686018427387904 ∧ d.steps.length ≤ 4398046511104 ∧ pend d.steps ≤ 1152921504606846976
def Ab.create (d : Ab) (n : ByteArray) : Ab × Int := if rdy d [n] ≠ 0 then (d, rdy d [n]) else if (get d.seen n).isSome then (d, 122) else if d.room < d.used + n.size then (d, 123) else d.step (.created n)
theorem one_C (W : World) (n : ByteArray) : Kd.C Kd.string (W.alloc (.cells #[.string n] 9)) (some ⟨W.heap.size, 0, none⟩) [n].length [n] := (Kd.R_reads' (row_one W n (fun _ => True) trivial)).2.2
set_option maxHeartbeats 2000000 in
theorem create_calls {W : World} {S : Nat → Prop} {dp : Nat} {d : Ab} (h : Dk W S dp d) (hb : d.Bd) (n : ByteArray) (hn : n.size ≤ 1099511627776) : Calls Try.prog 45 #[.pointer (some ⟨dp, 0, none⟩), .string n] W fun e w => e = .returned (.int .i64 (d.create n).2) ∧ ∃ S', Dk w S' dp (d.create n).1 ∧ Ext S W w S' := by
  have hB := below_alloc (Below.refl W.heap.size W) (.cells #[.string n] 9)
  have HK := Aside0.mk h
  have HB := Aside0.mk hB
  obtain ⟨R, mp, lp, sv, ss, hD, hok, hS, hl⟩ := h
  have HD := Aside0.mk (hD.below hB)
  have HC := Aside0.mk (one_C W n)
  have HQ := Aside0.mk (And.intro hok (And.intro hS (And.intro hl (And.intro hb hn))))
  have HN : Aside0 (∀ m ∈ [n], m.size ≤ 9223372036854775807) := ⟨by intro m hm; obtain rfl := List.mem_singleton.1 hm; omega⟩
  clear hB hD hok hS hl hb hn
  by_cases hr : rdy d [n] ≠ 0
  · have hE := Aside0.mk (show d.create n = (d, rdy d [n]) by simp only [Ab.create]; rw [if_pos hr])
    have hne : (rdy d [n] != 0) = true := by simpa using hr
    have hne2 : (rdy d [n] == 0) = false := by simpa using hr
    go_enter Try.func45, Try.ntmps45
    go_wp2_with (first
      | (go_at_call 52; refine (ready_calls HD.out _ _ _ HC.out (by simp) HN.out).mono ?_; rintro r w2 ⟨rfl, hw⟩; obtain rfl := hw.symm)
      | fail)
    go_ret
    rw [hE.out]
    exact ⟨rfl, keepE HK.out HB.out⟩
  have hr : rdy d [n] = 0 := Decidable.not_not.1 hr
  have HR := Aside0.mk hr
  by_cases hg : (get d.seen n).isSome = true
  · have hE := Aside0.mk (show d.create n = (d, 122) by simp only [Ab.create]; rw [if_neg (by simpa using hr), if_pos hg])
    have HG := Aside0.mk hg
    clear hr hg
    go_enter Try.func45, Try.ntmps45
    go_wp2_with (first
      | (go_at_call 52; refine (ready_calls HD.out _ _ _ HC.out (by simp) HN.out).mono ?_; rw [HR.out]; rintro r w2 ⟨rfl, hw⟩; obtain rfl := hw.symm)
      | (go_at_call 90; refine (has_calls HD.out _).mono ?_; rw [HG.out]; rintro r w2 ⟨rfl, hw⟩; obtain rfl := hw.symm)
      | fail)
    go_ret
    rw [hE.out]
    exact ⟨rfl, keepE HK.out HB.out⟩
  have hg : (get d.seen n).isSome = false := by simpa using hg
  have HG := Aside0.mk hg
  have hug := HQ.out.1.used
  have hle := HQ.out.1.seenLe
  have hrm := HQ.out.1.room
  have hnn := HQ.out.2.2.2.2
  have hw : wrap64 ((d.room : Int) - (d.used : Int)) = (d.room : Int) - (d.used : Int) := by unfold wrap64; omega
  have hw' : IntKind.i64.wrap ((d.room : Int) - (d.used : Int)) = (d.room : Int) - (d.used : Int) := IntWalk.i64_in _ (by omega)
  by_cases hroom : d.room < d.used + n.size
  · have hE := Aside0.mk (show d.create n = (d, 123) by simp only [Ab.create]; rw [if_neg (by simpa using hr), if_neg (by simp [hg]), if_pos hroom])
    have ht : decide ((d.room : Int) - (d.used : Int) < (n.size : Int)) = true := decide_eq_true (by omega)
    clear hr hg hroom hug hle hrm hnn
    go_enter Try.func45, Try.ntmps45
    go_upto_region 6 with (first
      | (go_at_call 52; refine (ready_calls HD.out _ _ _ HC.out (by simp) HN.out).mono ?_; rw [HR.out]; rintro r w2 ⟨rfl, hw⟩; obtain rfl := hw.symm)
      | (go_at_call 90; refine (has_calls HD.out _).mono ?_; rw [HG.out]; rintro r w2 ⟨rfl, hw⟩; obtain rfl := hw.symm)
      | fail)
    generalize W.alloc (.cells #[.string n] 9) = w1 at HB HD HC ⊢
    have c0 : w1.cell? ⟨dp, 0, none⟩ = some (.int .i64 (d.room : Int)) := blk_cell HD.out.dsk 0
    have c4 : w1.cell? ⟨dp, 4, none⟩ = some (.int .i64 (d.used : Int)) := blk_cell HD.out.dsk 4
    go_quiet (fail)
    have HB2 := Aside0.mk (HB.out.trans (below_w (Drawn0.below (w := w1) (w' := w1.drewN nq) ⟨nq, rfl⟩) HB.out.size))
    clear c0 c4 HC HD
    generalize w1.drewN nq = w2 at HB2 ⊢
    go_wp2
    go_ret
    rw [hE.out]
    exact ⟨rfl, keepE HK.out HB2.out⟩
  · have hE := Aside0.mk (show d.create n = d.step (.created n) by simp only [Ab.create]; rw [if_neg (by simpa using hr), if_neg (by simp [hg]), if_neg hroom])
    have ht : decide ((d.room : Int) - (d.used : Int) < (n.size : Int)) = false := decide_eq_false (by omega)
    have hgn : get d.seen n = none := by simpa using hg
    have htk := taken_created HQ.out.1.seenSrt hgn
    have HT := Aside0.mk (And.intro (show okSt d.seen (.created n) from trivial) (And.intro (show taken (doAll d.seen (.created n)) ≤ d.room by omega) (show taken d.seen + (St.created n).bytes ≤ 1099511627776 by show _ + 0 ≤ _; omega)))
    clear hr hg hroom hug hle hnn htk hgn
    have HRM := Aside0.mk hrm
    clear hrm
    go_enter Try.func45, Try.ntmps45
    go_upto_region 6 with (first
      | (go_at_call 52; refine (ready_calls HD.out _ _ _ HC.out (by simp) HN.out).mono ?_; rw [HR.out]; rintro r w2 ⟨rfl, hw⟩; obtain rfl := hw.symm)
      | (go_at_call 90; refine (has_calls HD.out _).mono ?_; rw [HG.out]; rintro r w2 ⟨rfl, hw⟩; obtain rfl := hw.symm)
      | fail)
    generalize W.alloc (.cells #[.string n] 9) = w1 at HB HD HC ⊢
    have c0 : w1.cell? ⟨dp, 0, none⟩ = some (.int .i64 (d.room : Int)) := blk_cell HD.out.dsk 0
    have c4 : w1.cell? ⟨dp, 4, none⟩ = some (.int .i64 (d.used : Int)) := blk_cell HD.out.dsk 4
    go_quiet (fail)
    have hdn : Below w1.heap.size w1 (w1.drewN nq) := Drawn0.below ⟨nq, rfl⟩
    have HB2 := Aside0.mk (HB.out.trans (below_w hdn HB.out.size))
    have HD2 := Aside0.mk (HD.out.below hdn)
    clear c0 c4 HC HD hdn
    generalize w1.drewN nq = w2 at HB2 HD2 ⊢
    have HST := Aside0.mk (step_calls HD2.out HQ.out.1.fails HQ.out.2.2.2.1.1 HQ.out.2.2.2.1.2.1 (v := .iface 130 (.agg #[.string n])) (s := .created n) rfl HT.out.1 HT.out.2.2 (by have := HT.out.2.1; have := HRM.out; omega))
    go_wp2_with (first | (go_at_call 91; refine HST.out.mono ?_; rintro e w3 ⟨rfl, R', sv', ss', hd3, hx3⟩; (have HX := Aside0.mk (lift HQ.out.2.1 HQ.out.2.2.1 HB2.out hd3 hx3 (Ab.step_ok HQ.out.1 HT.out.1 HT.out.2.1))); clear hd3 hx3) | fail)
    go_ret
    rw [hE.out]
    exact ⟨rfl, HX.out⟩
end Gd

namespace Gd
open Go.Proofs.Ytidijiijciokpaa.Blocks Frm
set_option maxRecDepth 100000
theorem Dm.grow {W W' : World} {R : Nat → Prop} {dp mp lp : Nat} {sv : Value} {ss : List Value} {d : Ab} (h : Dm W R dp mp lp sv ss d) (hB : Below W.heap.size W W') : Dm W' (fun k => R k ∨ (W.heap.size ≤ k ∧ k < W'.heap.size)) dp mp lp sv ss d ∧ Ext (Ft R dp mp lp sv) W W' (Ft (fun k => R k ∨ (W.heap.size ≤ k ∧ k < W'.heap.size)) dp mp lp sv) := by
  have h1 := h.below hB
  have hb := h.flt
  refine ⟨⟨h1.dsk, h1.seen.keep rfl (fun _ _ _ => rfl) fun _ q => .inl q, h1.lasts.keep rfl (fun _ _ _ => rfl) fun _ q => .inl q, h1.ne, h1.own, h1.sts.keep (fun _ _ _ => rfl) fun _ q => .inl q, fun k q => ?_, fun q => ?_, fun q => ?_, fun q => ?_, fun g hg q => ?_⟩, hB.os, hB.tape, hB.output, hB.size, fun k hk _ => hB.block k hk, fun k q => ?_⟩
  · rcases q with q | q
    · exact h1.rlt k q
    · exact q.2
  · have := hb dp ft_dp
    rcases q with q | q
    · exact h.rdp q
    · omega
  · have := h.seen.lt
    rcases q with q | q
    · exact h.rmp q
    · omega
  · have := h.lasts.lt
    rcases q with q | q
    · exact h.rlp q
    · omega
  · have := hb g (.inr (.inr (.inr (.inr hg))))
    rcases q with q | q
    · exact h.rsv g hg q
    · omega
  · rcases q with (q | q) | q
    · exact .inl (.inl q)
    · exact .inr q.1
    · exact .inl (.inr q)
theorem rw_of_C {W : World} {A : Option Addr} {c : Nat} {d : ByteArray} (hC : Kd.C (Kd.int .u8) W A d.size (bytesOf d)) (hc : d.size ≤ c) (hA : A = none → c = 0) : Rw W (fun _ => True) (.slice A d.size c) d := by
  refine ⟨A, c, rfl, hc, hA, fun W' hW => ⟨hC.1, hC.2.1, fun hp => ?_⟩⟩
  obtain ⟨ad, rfl, hcell⟩ := hC.2.2 hp
  refine ⟨ad, rfl, fun j p hj => ?_⟩
  obtain ⟨cs, h1, h2, h3⟩ := hcell j p hj
  refine ⟨cs, h1, h2, fun i u hu => ?_⟩
  have h4 := h3 i u hu
  have hb : ∀ a : Addr, W.cell? a = some u → W'.cell? a = some u := fun a ha => by
    unfold World.cell? at ha ⊢
    rcases hh : W.heap[a.block]? with _ | o
    · rw [hh] at ha
      cases ha
    · rw [hh] at ha
      rw [hW a.block trivial (Array.getElem?_eq_some_iff.1 hh).1, hh]
      exact ha
  exact hb _ h4
def Ab.append (d : Ab) (n b : ByteArray) : Ab × Int := if thr d n [] ≠ 0 then (d, thr d n []) else if d.room < d.used + b.size then (d, 123) else d.step (.laid n b)
def Ab.remove (d : Ab) (n : ByteArray) : Ab × Int := if thr d n [] ≠ 0 then (d, thr d n []) else d.step (.removed n)
def Ab.cut (d : Ab) (n : ByteArray) (k : Int) : Ab × Int := if thr d n [] ≠ 0 then (d, thr d n []) else if k < 0 ∨ ((dat d.seen n).size : Int) < k then (d, 1) else d.step (.cut n k.toNat)
def Ab.rename (d : Ab) (a b : ByteArray) : Ab × Int := if thr d a [b] ≠ 0 then (d, thr d a [b]) else if (d.room : Int) < ru d.seen a b then (d, 123) else d.step (.renamed a b)
theorem thr_get {d : Ab} {n : ByteArray} {ns : List ByteArray} (h : thr d n ns = 0) : get d.seen n ≠ none := by
  intro e
  unfold thr at h
  split at h
  · rename_i q
    exact q h
  · simp [e] at h
section
variable {W : World} {S : Nat → Prop} {dp : Nat} {d : Ab}
set_option maxHeartbeats 2000000 in
theorem remove_calls (h : Dk W S dp d) (hb : d.Bd) (n : ByteArray) (hn : n.size ≤ 1099511627776) : Calls Try.prog 62 #[.pointer (some ⟨dp, 0, none⟩), .string n] W fun e w => e = .returned (.int .i64 (d.remove n).2) ∧ ∃ S', Dk w S' dp (d.remove n).1 ∧ Ext S W w S' := by
  have HK := Aside0.mk h
  obtain ⟨R, mp, lp, sv, ss, hD, hok, hS, hl⟩ := h
  have HT := Aside0.mk (there_calls hD n none 0 [] (Kd.C_nil _ _) (by simp) (by intro m hm; obtain rfl := List.mem_singleton.1 hm; omega))
  have HD := Aside0.mk hD
  have HQ := Aside0.mk (And.intro hok (And.intro hS (And.intro hl hb)))
  clear hD hok hS hl hb
  by_cases hr : thr d n [] ≠ 0
  · have hE := Aside0.mk (show d.remove n = (d, thr d n []) by simp only [Ab.remove]; rw [if_pos hr])
    have hne : (thr d n [] != 0) = true := by simpa using hr
    have hne2 : (thr d n [] == 0) = false := by simpa using hr
    go_enter Try.func62, Try.ntmps62
    go_wp2_with (first
      | (go_at_call 65; refine HT.out.mono ?_; rintro r w2 ⟨rfl, hw⟩; (have HB := Aside0.mk hw); clear hw)
      | fail)
    go_ret
    rw [hE.out]
    exact ⟨rfl, keepE HK.out HB.out⟩
  have hr : thr d n [] = 0 := Decidable.not_not.1 hr
  have hE := Aside0.mk (show d.remove n = d.step (.removed n) by simp only [Ab.remove]; rw [if_neg (by simpa using hr)])
  have hg := thr_get hr
  have hle := HQ.out.1.seenLe
  have hrm := HQ.out.1.room
  have htk := taken_removed (f := d.seen) (n := n)
  have HZ := Aside0.mk (And.intro (show okSt d.seen (.removed n) from hg) (And.intro (show taken (doAll d.seen (.removed n)) ≤ d.room by omega) (And.intro (show taken d.seen + (St.removed n).bytes ≤ 1099511627776 by show _ + 0 ≤ _; omega) (show d.room ≤ 1099511627776 by omega))))
  rw [hr] at HT
  clear hr hg hle hrm htk
  go_enter Try.func62, Try.ntmps62
  go_wp2_with (first
    | (go_at_call 65; refine HT.out.mono ?_; rintro r w2 ⟨rfl, hw⟩; (have HB := Aside0.mk hw); clear hw; (have HST := Aside0.mk (step_calls (HD.out.below HB.out) HQ.out.1.fails HQ.out.2.2.2.1 HQ.out.2.2.2.2.1 (v := .iface 139 (.agg #[.string n])) (s := .removed n) rfl HZ.out.1 HZ.out.2.2.1 (by have := HZ.out.2.1; have := HZ.out.2.2.2; omega))))
    | (go_at_call 91; refine HST.out.mono ?_; rintro e w3 ⟨rfl, R', sv', ss', hd3, hx3⟩; (have HX := Aside0.mk (lift HQ.out.2.1 HQ.out.2.2.1 HB.out hd3 hx3 (Ab.step_ok HQ.out.1 HZ.out.1 HZ.out.2.1))); clear hd3 hx3)
    | fail)
  go_ret
  rw [hE.out]
  exact ⟨rfl, HX.out⟩
set_option maxHeartbeats 2000000 in
theorem append_calls (h : Dk W S dp d) (hb : d.Bd) (n b : ByteArray) (v : Value) {Q : Nat → Prop} (hv : Rw W Q v b) (hn : n.size ≤ 1099511627776) (hbs : b.size ≤ 549755813888) : Calls Try.prog 46 #[.pointer (some ⟨dp, 0, none⟩), .string n, v] W fun e w => e = .returned (.int .i64 (d.append n b).2) ∧ ∃ S', Dk w S' dp (d.append n b).1 ∧ Ext S W w S' := by
  have HK := Aside0.mk h
  obtain ⟨R, mp, lp, sv, ss, hD, hok, hS, hl⟩ := h
  have HT := Aside0.mk (there_calls hD n none 0 [] (Kd.C_nil _ _) (by simp) (by intro m hm; obtain rfl := List.mem_singleton.1 hm; omega))
  have HD := Aside0.mk hD
  have HV := Aside0.mk hv
  have HQ := Aside0.mk (And.intro hok (And.intro hS (And.intro hl hb)))
  have HS := Aside0.mk hbs
  obtain ⟨Ab_, cb, rfl, hcb⟩ := hv.form
  clear hD hok hS hl hb hcb hv
  by_cases hr : thr d n [] ≠ 0
  · have hE := Aside0.mk (show d.append n b = (d, thr d n []) by simp only [Ab.append]; rw [if_pos hr])
    have hne : (thr d n [] != 0) = true := by simpa using hr
    have hne2 : (thr d n [] == 0) = false := by simpa using hr
    go_enter Try.func46, Try.ntmps46
    go_wp2_with (first
      | (go_at_call 65; refine HT.out.mono ?_; rintro r w2 ⟨rfl, hw⟩; (have HB := Aside0.mk hw); clear hw)
      | fail)
    go_ret
    rw [hE.out]
    exact ⟨rfl, keepE HK.out HB.out⟩
  have hr : thr d n [] = 0 := Decidable.not_not.1 hr
  have hug := HQ.out.1.used
  have hle := HQ.out.1.seenLe
  have hrm := HQ.out.1.room
  have hw : wrap64 ((d.room : Int) - (d.used : Int)) = (d.room : Int) - (d.used : Int) := by unfold wrap64; omega
  have hw' : IntKind.i64.wrap ((d.room : Int) - (d.used : Int)) = (d.room : Int) - (d.used : Int) := IntWalk.i64_in _ (by omega)
  rw [hr] at HT
  have hg := thr_get hr
  by_cases hroom : d.room < d.used + b.size
  · have hE := Aside0.mk (show d.append n b = (d, 123) by simp only [Ab.append]; rw [if_neg (by simpa using hr), if_pos hroom])
    have ht : decide ((d.room : Int) - (d.used : Int) < (b.size : Int)) = true := decide_eq_true (by omega)
    clear hr hg hroom hug hle hrm
    go_enter Try.func46, Try.ntmps46
    go_upto_region 4 with (first
      | (go_at_call 65; refine HT.out.mono ?_; rintro r w1 ⟨rfl, hw⟩; (have HB := Aside0.mk hw); clear hw)
      | fail)
    have HD1 := Aside0.mk (HD.out.below HB.out)
    have c0 : w1.cell? ⟨dp, 0, none⟩ = some (.int .i64 (d.room : Int)) := blk_cell HD1.out.dsk 0
    have c4 : w1.cell? ⟨dp, 4, none⟩ = some (.int .i64 (d.used : Int)) := blk_cell HD1.out.dsk 4
    go_quiet (fail)
    have HB2 := Aside0.mk (HB.out.trans (below_w (Drawn0.below (w := w1) (w' := w1.drewN nq) ⟨nq, rfl⟩) HB.out.size))
    clear c0 c4 HD1
    generalize w1.drewN nq = w2 at HB2 ⊢
    go_wp2
    go_ret
    rw [hE.out]
    exact ⟨rfl, keepE HK.out HB2.out⟩
  · have hE := Aside0.mk (show d.append n b = d.step (.laid n b) by simp only [Ab.append]; rw [if_neg (by simpa using hr), if_neg hroom])
    have ht : decide ((d.room : Int) - (d.used : Int) < (b.size : Int)) = false := decide_eq_false (by omega)
    have htk := taken_laid (b := b) HQ.out.1.seenSrt hg
    have HZ := Aside0.mk (And.intro (show okSt d.seen (.laid n b) from hg) (And.intro (show taken (doAll d.seen (.laid n b)) ≤ d.room by omega) (And.intro (show taken d.seen + (St.laid n b).bytes ≤ 1099511627776 by show _ + b.size ≤ _; omega) (show d.room ≤ 1099511627776 by omega))))
    clear hr hg hroom hug hle htk hrm
    go_enter Try.func46, Try.ntmps46
    go_upto_region 4 with (first
      | (go_at_call 65; refine HT.out.mono ?_; rintro r w1 ⟨rfl, hw⟩; (have HB := Aside0.mk hw); clear hw)
      | fail)
    have HD1 := Aside0.mk (HD.out.below HB.out)
    have c0 : w1.cell? ⟨dp, 0, none⟩ = some (.int .i64 (d.room : Int)) := blk_cell HD1.out.dsk 0
    have c4 : w1.cell? ⟨dp, 4, none⟩ = some (.int .i64 (d.used : Int)) := blk_cell HD1.out.dsk 4
    go_quiet (fail)
    have hdn : Below w1.heap.size w1 (w1.drewN nq) := Drawn0.below ⟨nq, rfl⟩
    have HB2 := Aside0.mk (HB.out.trans (below_w hdn HB.out.size))
    have HD2 := Aside0.mk (HD1.out.below hdn)
    clear c0 c4 HD1 hdn
    generalize w1.drewN nq = w2 at HB2 HD2 ⊢
    have HV2 := Aside0.mk (HV.out.below HB2.out)
    go_wp2_with (first
      | (go_at_call 57; refine (clone_any HV2.out (by have := HS.out; omega)).mono ?_; rintro e w3 ⟨v3, rfl, hv3, hb3⟩; obtain ⟨A3, c3, rfl, _⟩ := Frm.own_slice hv3; (have HG3 := Aside0.mk (HD2.out.grow hb3)); (have HST := Aside0.mk (step_calls HG3.out.1 HQ.out.1.fails HQ.out.2.2.2.1 HQ.out.2.2.2.2.1 (v := .iface 132 (.agg #[.string n, .slice A3 b.size c3])) (s := .laid n b) ⟨_, rfl, (rw_own hv3).bound.grow (fun k q => .inr ⟨q.1.1, q.2⟩)⟩ HZ.out.1 HZ.out.2.2.1 (by have := HZ.out.2.1; have := HZ.out.2.2.2; omega))); clear hv3 hb3)
      | (go_at_call 91; refine HST.out.mono ?_; rintro e w4 ⟨rfl, R', sv', ss', hd3, hx3⟩; (have HX := Aside0.mk (lift HQ.out.2.1 HQ.out.2.2.1 HB2.out hd3 (HG3.out.2.trans hx3) (Ab.step_ok HQ.out.1 HZ.out.1 HZ.out.2.1))); clear hd3 hx3)
      | fail)
    go_ret
    rw [hE.out]
    exact ⟨rfl, HX.out⟩
end
end Gd

namespace Gd
open Go.Proofs.Ytidijiijciokpaa.Blocks Frm
set_option maxRecDepth 100000
theorem i64_of {x : Int} (h : -9223372036854775808 ≤ x ∧ x ≤ 9223372036854775807) : IntKind.i64.wrap x = x := IntWalk.i64_in _ (by omega)
theorem w64_of {x : Int} (h : -9223372036854775808 ≤ x ∧ x ≤ 9223372036854775807) : wrap64 x = x := by unfold wrap64; omega
section
variable {W : World} {S : Nat → Prop} {dp : Nat} {d : Ab}
set_option maxHeartbeats 2000000 in
theorem cut_calls (h : Dk W S dp d) (hb : d.Bd) (n : ByteArray) (k : Int) (hn : n.size ≤ 1099511627776) : Calls Try.prog 60 #[.pointer (some ⟨dp, 0, none⟩), .string n, .int .i64 k] W fun e w => e = .returned (.int .i64 (d.cut n k).2) ∧ ∃ S', Dk w S' dp (d.cut n k).1 ∧ Ext S W w S' := by
  have HK := Aside0.mk h
  obtain ⟨R, mp, lp, sv, ss, hD, hok, hS, hl⟩ := h
  have HT := Aside0.mk (there_calls hD n none 0 [] (Kd.C_nil _ _) (by simp) (by intro m hm; obtain rfl := List.mem_singleton.1 hm; omega))
  have HD := Aside0.mk hD
  have HQ := Aside0.mk (And.intro hok (And.intro hS (And.intro hl hb)))
  clear hD hok hS hl hb
  by_cases hr : thr d n [] ≠ 0
  · have hE := Aside0.mk (show d.cut n k = (d, thr d n []) by simp only [Ab.cut]; rw [if_pos hr])
    have hne : (thr d n [] != 0) = true := by simpa using hr
    have hne2 : (thr d n [] == 0) = false := by simpa using hr
    go_enter Try.func60, Try.ntmps60
    go_wp2_with (first
      | (go_at_call 65; refine HT.out.mono ?_; rintro r w2 ⟨rfl, hw⟩; (have HB := Aside0.mk hw); clear hw)
      | fail)
    go_ret
    rw [hE.out]
    exact ⟨rfl, keepE HK.out HB.out⟩
  have hr : thr d n [] = 0 := Decidable.not_not.1 hr
  have hg := thr_get hr
  obtain ⟨x, hx⟩ := Option.ne_none_iff_exists'.1 hg
  have hdx : dat d.seen n = x := by simp [dat, hx]
  have hle := HQ.out.1.seenLe
  have hrm := HQ.out.1.room
  have hxl := taken_mem (get_mem hx)
  have hxx : (n, x).1.size + (n, x).2.size = n.size + x.size := rfl
  have HT0 := HT
  rw [hr] at HT
  by_cases hk : k < 0 ∨ (x.size : Int) < k
  · have hE := Aside0.mk (show d.cut n k = (d, 1) by simp only [Ab.cut]; rw [if_neg (by simpa using hr), hdx, if_pos hk])
    have HX := Aside0.mk hx
    clear hr hg hx hdx hle hrm hxl hxx HT0
    rcases hk0 : decide (k < 0) with _ | _
    · have hk1 : decide ((x.size : Int) < k) = true := by
        have : ¬ k < 0 := by simpa using hk0
        exact decide_eq_true (by omega)
      clear hk
      go_enter Try.func60, Try.ntmps60
      go_wp2_with (first
        | (go_at_call 65; refine HT.out.mono ?_; rintro r w2 ⟨rfl, hw⟩; (have HB := Aside0.mk hw); clear hw; (have HD2 := Aside0.mk (HD.out.below HB.out)); (have c1 : w2.cell? ⟨dp, 1, none⟩ = some (.map (some mp)) := blk_cell HD2.out.dsk 1); obtain ⟨v, hv, _, hlk⟩ := HD2.out.seen.look HX.out; obtain ⟨Av, cv, rfl, _⟩ := hv.form; clear hv)
        | fail)
      go_ret
      rw [hE.out]
      exact ⟨rfl, keepE HK.out HB.out⟩
    · clear hk
      go_enter Try.func60, Try.ntmps60
      go_wp2_with (first
        | (go_at_call 65; refine HT.out.mono ?_; rintro r w2 ⟨rfl, hw⟩; (have HB := Aside0.mk hw); clear hw)
        | fail)
      go_ret
      rw [hE.out]
      exact ⟨rfl, keepE HK.out HB.out⟩
  · obtain ⟨m, rfl⟩ : ∃ m : Nat, k = (m : Int) := ⟨k.toNat, by omega⟩
    have hE := Aside0.mk (show d.cut n (m : Int) = d.step (.cut n m) by simp only [Ab.cut]; rw [if_neg (by simpa using hr), hdx, if_neg hk, Int.toNat_natCast])
    have htk := taken_cut (k := m) HQ.out.1.seenSrt hg
    have HZ := Aside0.mk (And.intro (show okSt d.seen (.cut n m) from ⟨hg, by rw [hdx]; omega⟩) (And.intro (show taken (doAll d.seen (.cut n m)) ≤ d.room by omega) (And.intro (show taken d.seen + (St.cut n m).bytes ≤ 1099511627776 by show _ + 0 ≤ _; omega) (show d.room ≤ 1099511627776 by omega))))
    have hk0 : decide ((m : Int) < 0) = false := decide_eq_false (by omega)
    have hk1 : decide ((x.size : Int) < (m : Int)) = false := decide_eq_false (by omega)
    have hk2 : decide (x.size < m) = false := decide_eq_false (by omega)
    have HX := Aside0.mk hx
    clear hr hg hx hdx hle hrm hxl hxx HT0 hk htk
    go_enter Try.func60, Try.ntmps60
    go_wp2_with (first
      | (go_at_call 65; refine HT.out.mono ?_; rintro r w2 ⟨rfl, hw⟩; (have HB := Aside0.mk hw); clear hw; (have HD2 := Aside0.mk (HD.out.below HB.out)); (have c1 : w2.cell? ⟨dp, 1, none⟩ = some (.map (some mp)) := blk_cell HD2.out.dsk 1); obtain ⟨v, hv, _, hlk⟩ := HD2.out.seen.look HX.out; obtain ⟨Av, cv, rfl, _⟩ := hv.form; clear hv; (have HST := Aside0.mk (step_calls HD2.out HQ.out.1.fails HQ.out.2.2.2.1 HQ.out.2.2.2.2.1 (v := .iface 136 (.agg #[.string n, .int .i64 (m : Int)])) (s := .cut n m) rfl HZ.out.1 HZ.out.2.2.1 (by have := HZ.out.2.1; have := HZ.out.2.2.2; omega))))
      | (go_at_call 91; refine HST.out.mono ?_; rintro e w3 ⟨rfl, R', sv', ss', hd3, hx3⟩; (have HX := Aside0.mk (lift HQ.out.2.1 HQ.out.2.2.1 HB.out hd3 hx3 (Ab.step_ok HQ.out.1 HZ.out.1 HZ.out.2.1))); clear hd3 hx3)
      | fail)
    go_ret
    rw [hE.out]
    exact ⟨rfl, HX.out⟩
set_option maxHeartbeats 2000000 in
theorem rename_calls (h : Dk W S dp d) (hb : d.Bd) (a b : ByteArray) (ha : a.size ≤ 1099511627776) (hbn : b.size ≤ 1099511627776) : Calls Try.prog 61 #[.pointer (some ⟨dp, 0, none⟩), .string a, .string b] W fun e w => e = .returned (.int .i64 (d.rename a b).2) ∧ ∃ S', Dk w S' dp (d.rename a b).1 ∧ Ext S W w S' := by
  have HK := Aside0.mk h
  have hB := below_alloc (Below.refl W.heap.size W) (.cells #[.string b] 9)
  obtain ⟨R, mp, lp, sv, ss, hD, hok, hS, hl⟩ := h
  have HT := Aside0.mk (there_calls (hD.below hB) a _ 1 [b] (one_C W b) (by simp) (by intro m hm; rcases List.mem_cons.1 hm with rfl | hm; omega; obtain rfl := List.mem_singleton.1 hm; omega))
  have HD := Aside0.mk (hD.below hB)
  have HB0 := Aside0.mk hB
  have HQ := Aside0.mk (And.intro hok (And.intro hS (And.intro hl hb)))
  clear hD hok hS hl hb hB
  by_cases hr : thr d a [b] ≠ 0
  · have hE := Aside0.mk (show d.rename a b = (d, thr d a [b]) by simp only [Ab.rename]; rw [if_pos hr])
    have hne : (thr d a [b] != 0) = true := by simpa using hr
    have hne2 : (thr d a [b] == 0) = false := by simpa using hr
    go_enter Try.func61, Try.ntmps61
    go_wp2_with (first
      | (go_at_call 65; refine HT.out.mono ?_; rintro r w2 ⟨rfl, hw⟩; (have HB := Aside0.mk (HB0.out.trans (below_w hw HB0.out.size))); clear hw)
      | fail)
    go_ret
    rw [hE.out]
    exact ⟨rfl, keepE HK.out HB.out⟩
  have hr : thr d a [b] = 0 := Decidable.not_not.1 hr
  have hg := thr_get hr
  obtain ⟨x, hx⟩ := Option.ne_none_iff_exists'.1 hg
  have hug := HQ.out.1.used
  have hle := HQ.out.1.seenLe
  have hrm := HQ.out.1.room
  have hxl := taken_mem (get_mem hx)
  have hxx : (a, x).1.size + (a, x).2.size = a.size + x.size := rfl
  have htk := taken_renamed (b := b) HQ.out.1.seenSrt hg
  have HE0 := Aside0.mk (show d.rename a b = if (d.room : Int) < ru d.seen a b then (d, 123) else d.step (.renamed a b) by simp only [Ab.rename]; rw [if_neg (by simpa using hr)])
  have HOK := Aside0.mk (show okSt d.seen (.renamed a b) from hg)
  have hby : taken d.seen + (St.renamed a b).bytes ≤ 1099511627776 := by show _ + 0 ≤ _; omega
  have HBY := Aside0.mk hby
  rw [hr] at HT
  clear hr hg hby
  by_cases e : a = b
  · subst e
    have hru : ru d.seen a a = (d.used : Int) := by
      unfold ru
      rw [if_neg (by simp)]
      omega
    have hroom : ¬ (d.room : Int) < (d.used : Int) := by omega
    have HZ := Aside0.mk (And.intro (show taken (doAll d.seen (.renamed a a)) ≤ d.room by omega) (show d.room ≤ 1099511627776 by omega))
    have b1 : -9223372036854775808 ≤ (d.used : Int) - (a.size : Int) ∧ (d.used : Int) - (a.size : Int) ≤ 9223372036854775807 := by omega
    have b2 : -9223372036854775808 ≤ (d.used : Int) ∧ (d.used : Int) ≤ 9223372036854775807 := by omega
    have w1 := i64_of b1
    have w2_ := w64_of b2
    have w3_ := i64_of b2
    have b3 : -9223372036854775808 ≤ (d.used : Int) - (a.size : Int) + (a.size : Int) ∧ (d.used : Int) - (a.size : Int) + (a.size : Int) ≤ 9223372036854775807 := by
      have e9 : (d.used : Int) - (a.size : Int) + (a.size : Int) = (d.used : Int) := Int.sub_add_cancel _ _
      rw [e9]
      exact b2
    have w4_ := i64_of b3
    have tn : decide (d.room < d.used) = false := decide_eq_false (fun q => hroom (Int.ofNat_lt.2 q))
    clear b1 b2 b3
    have hE := Aside0.mk (show d.rename a a = d.step (.renamed a a) by rw [HE0.out, hru, if_neg hroom])
    have ht : decide ((d.room : Int) < (d.used : Int)) = false := decide_eq_false hroom
    clear hroom hug hle hrm hxl hxx htk hru HE0
    go_enter Try.func61, Try.ntmps61
    go_wp2_with (first
      | (go_at_call 65; refine HT.out.mono ?_; rintro r w2 ⟨rfl, hw⟩; (have HB := Aside0.mk (HB0.out.trans (below_w hw HB0.out.size))); (have HD2 := Aside0.mk (HD.out.below hw)); clear hw; (have c0 : w2.cell? ⟨dp, 0, none⟩ = some (.int .i64 (d.room : Int)) := blk_cell HD2.out.dsk 0); (have c4 : w2.cell? ⟨dp, 4, none⟩ = some (.int .i64 (d.used : Int)) := blk_cell HD2.out.dsk 4))
      | (go_at_call 91; refine (step_calls HD2.out HQ.out.1.fails HQ.out.2.2.2.1 HQ.out.2.2.2.2.1 (v := .iface 138 (.agg #[.string a, .string a])) (s := .renamed a a) rfl HOK.out HBY.out (by have := HZ.out.1; have := HZ.out.2; omega)).mono ?_; rintro e w3 ⟨rfl, R', sv', ss', hd3, hx3⟩; (have HX := Aside0.mk (lift HQ.out.2.1 HQ.out.2.2.1 HB.out hd3 hx3 (Ab.step_ok HQ.out.1 HOK.out HZ.out.1))); clear hd3 hx3)
      | fail)
    go_ret
    rw [hE.out]
    exact ⟨rfl, HX.out⟩
  have hb3 : (a.toList == b.toList) = false := by rw [toList_beq, decide_eq_false e]
  rcases hgb : get d.seen b with _ | y
  · have hru : ru d.seen a b = (d.used : Int) - (a.size : Int) + (b.size : Int) := by
      unfold ru
      rw [if_neg (by simp [hgb])]
      omega
    have HG := Aside0.mk (show (get d.seen b).isSome = false by rw [hgb]; rfl)
    clear hgb e
    have w1 : IntKind.i64.wrap ((d.used : Int) - (a.size : Int)) = (d.used : Int) - (a.size : Int) := IntWalk.i64_in _ (by omega)
    have w2_ : IntKind.i64.wrap ((d.used : Int) - (a.size : Int) + (b.size : Int)) = (d.used : Int) - (a.size : Int) + (b.size : Int) := IntWalk.i64_in _ (by omega)
    by_cases hroom : (d.room : Int) < (d.used : Int) - (a.size : Int) + (b.size : Int)
    · have hE := Aside0.mk (show d.rename a b = (d, 123) by rw [HE0.out, hru, if_pos hroom])
      have ht : decide ((d.room : Int) < (d.used : Int) - (a.size : Int) + (b.size : Int)) = true := decide_eq_true hroom
      clear hroom hug hle hrm hxl hxx htk hru HE0
      go_enter Try.func61, Try.ntmps61
      go_wp2_with (first
        | (go_at_call 65; refine HT.out.mono ?_; rintro r w2 ⟨rfl, hw⟩; (have HB := Aside0.mk (HB0.out.trans (below_w hw HB0.out.size))); (have HD2 := Aside0.mk (HD.out.below hw)); clear hw; (have c0 : w2.cell? ⟨dp, 0, none⟩ = some (.int .i64 (d.room : Int)) := blk_cell HD2.out.dsk 0); (have c4 : w2.cell? ⟨dp, 4, none⟩ = some (.int .i64 (d.used : Int)) := blk_cell HD2.out.dsk 4))
        | (go_at_call 90; refine (has_calls HD2.out _).mono ?_; rw [HG.out]; rintro r w4 ⟨rfl, hw⟩; obtain rfl := hw.symm)
        | fail)
      go_ret
      rw [hE.out]
      exact ⟨rfl, keepE HK.out HB.out⟩
    · have hE := Aside0.mk (show d.rename a b = d.step (.renamed a b) by rw [HE0.out, hru, if_neg hroom])
      have ht : decide ((d.room : Int) < (d.used : Int) - (a.size : Int) + (b.size : Int)) = false := decide_eq_false hroom
      have HZ := Aside0.mk (And.intro (show taken (doAll d.seen (.renamed a b)) ≤ d.room by omega) (show d.room ≤ 1099511627776 by omega))
      clear hroom hug hle hrm hxl hxx htk hru HE0
      go_enter Try.func61, Try.ntmps61
      go_wp2_with (first
        | (go_at_call 65; refine HT.out.mono ?_; rintro r w2 ⟨rfl, hw⟩; (have HB := Aside0.mk (HB0.out.trans (below_w hw HB0.out.size))); (have HD2 := Aside0.mk (HD.out.below hw)); clear hw; (have c0 : w2.cell? ⟨dp, 0, none⟩ = some (.int .i64 (d.room : Int)) := blk_cell HD2.out.dsk 0); (have c4 : w2.cell? ⟨dp, 4, none⟩ = some (.int .i64 (d.used : Int)) := blk_cell HD2.out.dsk 4))
        | (go_at_call 90; refine (has_calls HD2.out _).mono ?_; rw [HG.out]; rintro r w4 ⟨rfl, hw⟩; obtain rfl := hw.symm)
        | (go_at_call 91; refine (step_calls HD2.out HQ.out.1.fails HQ.out.2.2.2.1 HQ.out.2.2.2.2.1 (v := .iface 138 (.agg #[.string a, .string b])) (s := .renamed a b) rfl HOK.out HBY.out (by have := HZ.out.1; have := HZ.out.2; omega)).mono ?_; rintro e w3 ⟨rfl, R', sv', ss', hd3, hx3⟩; (have HX := Aside0.mk (lift HQ.out.2.1 HQ.out.2.2.1 HB.out hd3 hx3 (Ab.step_ok HQ.out.1 HOK.out HZ.out.1))); clear hd3 hx3)
        | fail)
      go_ret
      rw [hE.out]
      exact ⟨rfl, HX.out⟩
  · have hru : ru d.seen a b = (d.used : Int) - (a.size : Int) + (b.size : Int) - ((b.size : Int) + (y.size : Int)) := by
      unfold ru
      rw [if_pos ⟨e, by simp [hgb]⟩, show dat d.seen b = y by simp [dat, hgb]]
      omega
    have HG := Aside0.mk (show (get d.seen b).isSome = true by rw [hgb]; rfl)
    have HY := Aside0.mk hgb
    have hyl := taken_mem (get_mem hgb)
    have hyy : (b, y).1.size + (b, y).2.size = b.size + y.size := rfl
    clear hgb e
    have w1 : IntKind.i64.wrap ((d.used : Int) - (a.size : Int)) = (d.used : Int) - (a.size : Int) := IntWalk.i64_in _ (by omega)
    have w2_ : IntKind.i64.wrap ((d.used : Int) - (a.size : Int) + (b.size : Int)) = (d.used : Int) - (a.size : Int) + (b.size : Int) := IntWalk.i64_in _ (by omega)
    have w3_ : IntKind.i64.wrap ((b.size : Int) + (y.size : Int)) = (b.size : Int) + (y.size : Int) := IntWalk.i64_in _ (by omega)
    have w4_ : IntKind.i64.wrap ((d.used : Int) - (a.size : Int) + (b.size : Int) - ((b.size : Int) + (y.size : Int))) = (d.used : Int) - (a.size : Int) + (b.size : Int) - ((b.size : Int) + (y.size : Int)) := IntWalk.i64_in _ (by omega)
    clear hyl hyy
    by_cases hroom : (d.room : Int) < (d.used : Int) - (a.size : Int) + (b.size : Int) - ((b.size : Int) + (y.size : Int))
    · have hE := Aside0.mk (show d.rename a b = (d, 123) by rw [HE0.out, hru, if_pos hroom])
      have ht : decide ((d.room : Int) < (d.used : Int) - (a.size : Int) + (b.size : Int) - ((b.size : Int) + (y.size : Int))) = true := decide_eq_true hroom
      clear hroom hug hle hrm hxl hxx htk hru HE0
      go_enter Try.func61, Try.ntmps61
      go_wp2_with (first
        | (go_at_call 65; refine HT.out.mono ?_; rintro r w2 ⟨rfl, hw⟩; (have HB := Aside0.mk (HB0.out.trans (below_w hw HB0.out.size))); (have HD2 := Aside0.mk (HD.out.below hw)); clear hw; (have c0 : w2.cell? ⟨dp, 0, none⟩ = some (.int .i64 (d.room : Int)) := blk_cell HD2.out.dsk 0); (have c4 : w2.cell? ⟨dp, 4, none⟩ = some (.int .i64 (d.used : Int)) := blk_cell HD2.out.dsk 4); (have c1 : w2.cell? ⟨dp, 1, none⟩ = some (.map (some mp)) := blk_cell HD2.out.dsk 1); obtain ⟨v, hv, _, hlk⟩ := HD2.out.seen.look HY.out; obtain ⟨Av, cv, rfl, _⟩ := hv.form; clear hv)
        | (go_at_call 90; refine (has_calls HD2.out _).mono ?_; rw [HG.out]; rintro r w4 ⟨rfl, hw⟩; obtain rfl := hw.symm)
        | fail)
      go_ret
      rw [hE.out]
      exact ⟨rfl, keepE HK.out HB.out⟩
    · have hE := Aside0.mk (show d.rename a b = d.step (.renamed a b) by rw [HE0.out, hru, if_neg hroom])
      have ht : decide ((d.room : Int) < (d.used : Int) - (a.size : Int) + (b.size : Int) - ((b.size : Int) + (y.size : Int))) = false := decide_eq_false hroom
      have HZ := Aside0.mk (And.intro (show taken (doAll d.seen (.renamed a b)) ≤ d.room by omega) (show d.room ≤ 1099511627776 by omega))
      clear hroom hug hle hrm hxl hxx htk hru HE0
      go_enter Try.func61, Try.ntmps61
      go_wp2_with (first
        | (go_at_call 65; refine HT.out.mono ?_; rintro r w2 ⟨rfl, hw⟩; (have HB := Aside0.mk (HB0.out.trans (below_w hw HB0.out.size))); (have HD2 := Aside0.mk (HD.out.below hw)); clear hw; (have c0 : w2.cell? ⟨dp, 0, none⟩ = some (.int .i64 (d.room : Int)) := blk_cell HD2.out.dsk 0); (have c4 : w2.cell? ⟨dp, 4, none⟩ = some (.int .i64 (d.used : Int)) := blk_cell HD2.out.dsk 4); (have c1 : w2.cell? ⟨dp, 1, none⟩ = some (.map (some mp)) := blk_cell HD2.out.dsk 1); obtain ⟨v, hv, _, hlk⟩ := HD2.out.seen.look HY.out; obtain ⟨Av, cv, rfl, _⟩ := hv.form; clear hv)
        | (go_at_call 90; refine (has_calls HD2.out _).mono ?_; rw [HG.out]; rintro r w4 ⟨rfl, hw⟩; obtain rfl := hw.symm)
        | (go_at_call 91; refine (step_calls HD2.out HQ.out.1.fails HQ.out.2.2.2.1 HQ.out.2.2.2.2.1 (v := .iface 138 (.agg #[.string a, .string b])) (s := .renamed a b) rfl HOK.out HBY.out (by have := HZ.out.1; have := HZ.out.2; omega)).mono ?_; rintro e w3 ⟨rfl, R', sv', ss', hd3, hx3⟩; (have HX := Aside0.mk (lift HQ.out.2.1 HQ.out.2.2.1 HB.out hd3 hx3 (Ab.step_ok HQ.out.1 HOK.out HZ.out.1))); clear hd3 hx3)
        | fail)
      go_ret
      rw [hE.out]
      exact ⟨rfl, HX.out⟩
end
end Gd

namespace Gd
open Go.Proofs.Ytidijiijciokpaa.Blocks Frm
set_option maxRecDepth 100000
theorem own_nil (W : World) : W.ownsRow 0 92 1 (.slice none 0 0) ([] : List Value).length [] := ⟨rfl, .inl ⟨rfl, rfl⟩⟩
theorem Dm.relast {W W' : World} {R R2 : Nat → Prop} {dp mp lp out : Nat} {sv : Value} {ss : List Value} {d : Ab} (h : Dm W R dp mp lp sv ss d) {f : Fs} (hB : Below W.heap.size W W') (hf : Fm W' R2 out f) (h2 : ∀ k, R2 k → W.heap.size ≤ k ∧ k ≠ out ∧ k < W'.heap.size) (ho : W.heap.size ≤ out) :
    Dm ((W'.setCell ⟨dp, 2, none⟩ (.map (some out))).setCell ⟨dp, 3, none⟩ (.slice none 0 0)) (fun k => R k ∨ R2 k) dp mp out (.slice none 0 0) [] { d with lasts := f, steps := [] } ∧ Ext (Ft R dp mp lp sv) W ((W'.setCell ⟨dp, 2, none⟩ (.map (some out))).setCell ⟨dp, 3, none⟩ (.slice none 0 0)) (Ft (fun k => R k ∨ R2 k) dp mp out (.slice none 0 0)) := by
  have h1 := h.below hB
  have hdl := blk_lt h.dsk
  have hml := h.seen.lt
  have hk : ∀ k, k ≠ dp → ((W'.setCell ⟨dp, 2, none⟩ (.map (some out))).setCell ⟨dp, 3, none⟩ (.slice none 0 0)).heap[k]? = W'.heap[k]? := fun k hk => (Below.heap_setCell _ ⟨dp, 3, none⟩ _ k hk).trans (Below.heap_setCell W' ⟨dp, 2, none⟩ _ k hk)
  have hs : ((W'.setCell ⟨dp, 2, none⟩ (.map (some out))).setCell ⟨dp, 3, none⟩ (.slice none 0 0)).heap.size = W'.heap.size := by rw [World.size_setCell, World.size_setCell]
  have hsz := hB.size
  refine ⟨⟨blk_put (blk_put h1.dsk 2 (.map (some out)) rfl) 3 _ rfl, ?_, ?_, by omega, own_nil _, trivial, fun k q => ?_, fun q => ?_, fun q => ?_, fun q => ?_, fun g hg => by cases hg⟩, hB.os, hB.tape, hB.output, by rw [hs]; exact hsz, fun k hkl hn => (hk k (fun e => hn (e ▸ ft_dp))).trans (hB.block k hkl), fun k q => ?_⟩
  · exact h1.seen.keep (hk mp h.nd1) (fun k q _ => hk k fun e => h.rdp (e ▸ q)) fun _ q => .inl q
  · exact hf.keep (hk out (by omega)) (fun k q _ => hk k (by have := h2 k q; omega)) fun _ q => .inr q
  · rw [hs]
    rcases q with q | q
    · exact h1.rlt k q
    · exact (h2 k q).2.2
  · rcases q with q | q
    · exact h.rdp q
    · have := h2 _ q; omega
  · rcases q with q | q
    · exact h.rmp q
    · have := h2 _ q; omega
  · rcases q with q | q
    · have := h.rlt _ q; omega
    · exact (h2 _ q).2.1 rfl
  · rcases q with (q | q) | q | q | q | q
    · exact .inl (.inl q)
    · exact .inr (h2 k q).1
    · exact .inl (.inr (.inl q))
    · exact .inl (.inr (.inr (.inl q)))
    · exact .inr (by omega)
    · cases q
def Ab.sync (d : Ab) : Ab × Int := if rdy d [] ≠ 0 then (d, rdy d []) else if d.act.2 ≠ 0 then d.act else ({ d.act.1 with lasts := d.seen, steps := [] }, 0)
theorem Ab.sync_ok {d : Ab} (h : d.Ok) : d.sync.1.Ok := by
  unfold Ab.sync
  have ha := Ab.act_ok h
  obtain ⟨q1, q2, q3, q4, q5, q6, q7⟩ := act_seen d
  split
  · exact h
  · split
    · exact ha
    · refine ⟨ha.room, h.seenSrt, ?_, q1, ?_, (by intro s hs; cases hs), ha.fails⟩
      · show taken d.seen ≤ d.act.1.room
        rw [q4]
        exact h.seenLe
      · show d.act.1.used = taken d.act.1.seen
        rw [q6, q1]
        exact h.used
section
variable {W : World} {S : Nat → Prop} {dp : Nat} {d : Ab}
set_option maxHeartbeats 2000000 in
theorem sync_calls (h : Dk W S dp d) (hb : d.Bd) : Calls Try.prog 20 #[.pointer (some ⟨dp, 0, none⟩)] W fun e w => e = .returned (.int .i64 d.sync.2) ∧ ∃ S', Dk w S' dp d.sync.1 ∧ Ext S W w S' := by
  have HK := Aside0.mk h
  have hso := Ab.sync_ok h.ok
  obtain ⟨R, mp, lp, sv, ss, hD, hok, hS, hl⟩ := h
  have HT := Aside0.mk (ready_calls hD none 0 [] (Kd.C_nil _ _) (by simp) (by simp))
  have HD := Aside0.mk hD
  have HQ := Aside0.mk (And.intro hok (And.intro hS (And.intro hl (And.intro hb hso))))
  have HA := Aside0.mk (act_calls hD hok.fails hb.1)
  obtain ⟨q1, q2, q3, q4, q5, q6, q7⟩ := act_seen d
  have hle := hok.seenLe
  have hrm := hok.room
  have HL := Aside0.mk (And.intro q1 (show taken d.seen ≤ 1099511627776 by omega))
  clear hD hok hS hl hb q1 q2 q3 q4 q5 q6 q7 hle hrm hso
  by_cases hr : rdy d [] ≠ 0
  · have hE := Aside0.mk (show d.sync = (d, rdy d []) by simp only [Ab.sync]; rw [if_pos hr])
    have hne : (rdy d [] != 0) = true := by simpa using hr
    have hne2 : (rdy d [] == 0) = false := by simpa using hr
    go_enter Try.func20, Try.ntmps20
    go_wp2_with (first
      | (go_at_call 52; refine HT.out.mono ?_; rintro r w2 ⟨rfl, hw⟩; obtain rfl := hw.symm)
      | fail)
    go_ret
    rw [hE.out]
    exact ⟨rfl, keepE HK.out (Below.refl _ _)⟩
  have hr : rdy d [] = 0 := Decidable.not_not.1 hr
  rw [hr] at HT
  by_cases h0 : d.act.2 ≠ 0
  · have hE := Aside0.mk (show d.sync = d.act by simp only [Ab.sync]; rw [if_neg (by simpa using hr), if_pos h0])
    have hne : (d.act.2 != 0) = true := by simpa using h0
    have hne2 : (d.act.2 == 0) = false := by simpa using h0
    clear hr
    go_enter Try.func20, Try.ntmps20
    go_wp2_with (first
      | (go_at_call 52; refine HT.out.mono ?_; rintro r w2 ⟨rfl, hw⟩; obtain rfl := hw.symm)
      | (go_at_call 53; refine HA.out.mono ?_; rintro r w3 ⟨rfl, hd, hx, _⟩; (have HR := Aside0.mk (And.intro hd hx)); clear hd hx)
      | fail)
    go_ret
    rw [hE.out]
    exact ⟨rfl, lift HQ.out.2.1 HQ.out.2.2.1 (Below.refl _ _) HR.out.1 HR.out.2 (Ab.act_ok HQ.out.1)⟩
  have h0 : d.act.2 = 0 := Decidable.not_not.1 h0
  have hE := Aside0.mk (show d.sync = ({ d.act.1 with lasts := d.seen, steps := [] }, 0) by simp only [Ab.sync]; rw [if_neg (by simpa using hr), if_neg (by simpa using h0)])
  rw [h0] at HA
  rw [hE.out] at HQ
  generalize d.act.1 = d1 at HA HL hE HQ
  clear hr h0
  go_enter Try.func20, Try.ntmps20
  go_wp2_with (first
    | (go_at_call 52; refine HT.out.mono ?_; rintro r w2 ⟨rfl, hw⟩; obtain rfl := hw.symm)
    | (go_at_call 53; refine HA.out.mono ?_; rintro r w3 ⟨rfl, hd, hx, _⟩; (have HD3 := Aside0.mk hd); (have HX3 := Aside0.mk hx); clear hd hx; (have c1 : w3.cell? ⟨dp, 1, none⟩ = some (.map (some mp)) := blk_cell HD3.out.dsk 1))
    | (go_at_call 54; refine (copied_calls HD3.out.seen HD3.out.rlt (by rw [HL.out.1]; exact HL.out.2)).mono ?_; rintro r w4 ⟨out, R2, rfl, hf4, hr4, ho4, hb4⟩; rw [HL.out.1] at hf4; (have HR := Aside0.mk (HD3.out.relast hb4 hf4 hr4 ho4)); (have HD4 := Aside0.mk (HD3.out.below hb4)); clear hf4 hr4 ho4 hb4; (have k2 : w4.cell? ⟨dp, 2, none⟩ = some (.map (some lp)) := blk_cell HD4.out.dsk 2); (have k3 : w4.cell? ⟨dp, 3, none⟩ = some sv := blk_cell HD4.out.dsk 3); (have f2 : w4.frozen? ⟨dp, 2, none⟩ = false := blk_frozen HD4.out.dsk 2); (have f3 : w4.frozen? ⟨dp, 3, none⟩ = false := blk_frozen HD4.out.dsk 3))
    | fail)
  go_ret
  rw [hE.out]
  exact ⟨rfl, lift HQ.out.2.1 HQ.out.2.2.1 (Below.refl _ _) HR.out.1 (HX3.out.trans HR.out.2) HQ.out.2.2.2.2⟩
end
end Gd

end Go.Proofs.Ytidijiijciokpaa.G
