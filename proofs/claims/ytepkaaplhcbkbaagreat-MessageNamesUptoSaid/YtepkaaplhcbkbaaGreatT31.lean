import Derived.Test.YtepkaaplhcbkbaaGreatT30
import Derived.Test.YtepkaaplhcbkbaaGreatGx11
import Derived.Deep.Upon
import Derived.Deep.QuietTactic
import Derived.BigQuiet
import Derived.Deep.RegionHeld3
import Derived.Deep.DeepCutAuto
import Derived.Deep.CutBlock
import Derived.Laws.EntriesVeiled
import Derived.StillTailTactics
import Derived.Laws.Tables
import Derived.Laws.CopyOwn
import Derived.IntWalk
import Derived.Test.YtepkaaplhcbkbaaGreatBlocks
import Derived.Laws.CopyOwn
import Derived.Laws.Tables
import Derived.Outline
namespace Go.Proofs.YtepkaaplhcbkbaaGreat.G
open Go.RowKit Go.Proofs.YtepkaaplhcbkbaaGreatW.PrintWords Go.Proofs.YtepkaaplhcbkbaaGreatW.PrintLast Go.Proofs.YtepkaaplhcbkbaaGreatW.PrintMore
set_option linter.unusedVariables false
set_option linter.unusedSimpArgs false
namespace Pk
open Go.Proofs.YtepkaaplhcbkbaaGreat.Blocks Frm
set_option maxRecDepth 100000
theorem below_weak {B B' : Nat} {a b : World} (h : Below B' a b) (hb : B ≤ B') : Below B a b := ⟨h.os, h.tape, h.output, h.size, fun k hk => h.block k (by omega)⟩
theorem own_ne {W : World} {base p m : Nat} {e t : TypeId} {cs : Array Value} {u : Value} {z : List Value} (hp : W.heap[p]? = some (.cells cs t (0, 0))) (h : W.ownsRow base e 1 u m z) (hne : e ≠ t) : some p ≠ u.ownBlock := by
  intro h1
  obtain ⟨c1, k1⟩ := own_typed h p h1.symm
  rw [hp] at k1
  injection k1 with k1
  injection k1 with _ k1
  exact hne k1.symm
/-- A writer of the program's: block p holds its error, which is none, and its bytes, a row of its own. -/
structure PW (W : World) (base p : Nat) (xs : List Int) : Prop where
  out : ∃ bv, W.heap[p]? = some (.cells #[.int .i64 0, bv] 134 (0, 0)) ∧ W.ownsRow base 5 1 bv xs.length (nums .u8 xs)
  ge : base ≤ p
theorem PW.lt {W : World} {base p : Nat} {xs : List Int} (h : PW W base p xs) : p < W.heap.size := by
  obtain ⟨bv, hb, _⟩ := h.out
  exact blk_lt hb
theorem PW.below {W W' : World} {base p : Nat} {xs : List Int} (h : PW W base p xs) (hB : Below W.heap.size W W') : PW W' base p xs := by
  obtain ⟨bv, hb, ho⟩ := h.out
  have hg : W.grownBy W' none := ⟨hB.os, hB.tape, hB.output, hB.size, fun k hk _ => hB.block k hk⟩
  exact ⟨⟨bv, blk_below hb hB, own_kept ho hg (fun _ _ e => by cases e)⟩, h.ge⟩
theorem PW.new {W : World} {p : Nat} (h : W.heap[p]? = some (.cells #[.int .i64 0, .slice none 0 0] 134 (0, 0))) : PW W p p [] :=
  ⟨⟨_, h, by simp [nums], .inl ⟨rfl, rfl⟩⟩, Nat.le_refl _⟩
/-- Blocks that hold no bytes lie as they lay, but for p. -/
structure Kp (p : Nat) (W w : World) : Prop where
  size : W.heap.size ≤ w.heap.size
  blk : ∀ k, k < W.heap.size → k ≠ p → (∀ cs, W.heap[k]? ≠ some (.cells cs 5 (0, 0))) → w.heap[k]? = W.heap[k]?
theorem Kp.of {p : Nat} {W w : World} (h : Below W.heap.size W w) : Kp p W w := ⟨h.size, fun k hk _ _ => h.block k hk⟩
theorem Kp.trans {p : Nat} {a b c : World} (h : Kp p a b) (g : Kp p b c) : Kp p a c := ⟨Nat.le_trans h.size g.size, fun k hk hp ht => (g.blk k (Nat.lt_of_lt_of_le hk h.size) hp (fun cs => (h.blk k hk hp ht).symm ▸ ht cs)).trans (h.blk k hk hp ht)⟩
theorem Kp.at {p k : Nat} {W w : World} {cs : Array Value} {t : TypeId} (h : Kp p W w) (hb : W.heap[k]? = some (.cells cs t (0, 0))) (hp : k ≠ p) (ht : t ≠ 5) : w.heap[k]? = some (.cells cs t (0, 0)) :=
  (h.blk k (blk_lt hb) hp (fun cs' e => by rw [hb] at e; injection e with e; injection e with _ e; exact ht e)).trans hb
theorem Kp.lay {W w1 : World} {base p m : Nat} {u : Value} {z : List Value} (ho : W.ownsRow base 5 1 u m z) (hg : W.grownBy w1 u.ownBlock) (i : Nat) (v : Value) : Kp p W (w1.setCell ⟨p, i, none⟩ v) := by
  refine ⟨by rw [World.size_setCell]; exact hg.size, fun k hk hp ht => ?_⟩
  refine (Below.heap_setCell w1 ⟨p, i, none⟩ v k hp).trans (hg.block k hk (fun h => ?_))
  obtain ⟨c1, k1⟩ := own_typed ho k h.symm
  exact ht c1 k1
set_option maxHeartbeats 1000000 in
set_option maxRecDepth 100000 in
theorem play_calls {W : World} {base p : Nat} {xs : List Int} (h : PW W base p xs) (ys : List Int) (A : Option Addr) (c : Nat) (hC : Kd.C (Kd.int .u8) W A ys.length ys) (hl : xs.length + ys.length ≤ 140737488355328) :
    Calls Tryz.prog 126 #[.pointer (some ⟨p, 0, none⟩), .slice A ys.length c] W fun r w' => r = .returned (.tuple #[]) ∧ PW w' base p (xs ++ ys) ∧ Below base W w' ∧ Kp p W w' := by
  obtain ⟨bv, hb, ho⟩ := h.out
  have hlt := h.lt
  have hge := h.ge
  have hc0 : W.cell? ⟨p, 0, none⟩ = some (.int .i64 0) := blk_cell hb 0
  have hc1 : W.cell? ⟨p, 1, none⟩ = some bv := blk_cell hb 1
  obtain ⟨Ab, cb, rfl, _⟩ := Frm.own_slice ho
  have HO := Aside0.mk ho
  have HC := Aside0.mk hC
  have HB := Aside0.mk hb
  clear ho hC hb
  go_enter Tryz.func126, Tryz.ntmps126
  go_wp2_with (first | ((with_reducible refine gate_builtin (b := .append) (xs := #[.tmp 18, .tmp 19]) rfl ?_); at_builtin; refine wp_app (base := base) rfl (.tmp 18) (.tmp 19) 56 rfl Tryz.underlying56 (.slice Ab xs.length cb) xs ys A c ?s_ ?x_ HO.out HC.out hl (by omega) ?_; (case s_ => go_simp); (case x_ => go_simp); intro v1 w1 h1_ h2_ h3_; obtain ⟨A1, c1, hv1, _⟩ := Frm.own_slice h1_; subst hv1; have hb1_ := blk_grown HB.out h2_ (own_ne HB.out HO.out (by decide)); have hf1 := blk_frozen hb1_ 1; have hd1 := blk_cell hb1_ 1; have h1 := Aside0.mk h1_; have h2 := Aside0.mk h2_; have hb1 := Aside0.mk hb1_; clear h1_ h2_ h3_ hb1_) | go_in)
  go_end0
  refine ⟨rfl, ⟨⟨_, blk_set hb1.out 1 _, ?_⟩, hge⟩, ?_⟩
  · have h9 := own_setCell h1.out (p := ⟨p, 1, none⟩) (own_ne hb1.out h1.out (by decide)) (.slice A1 (xs ++ ys).length c1)
    simpa only [List.length_append] using h9
  · exact ⟨((Below.refl base W).grown h2.out (by omega) (fun k hk => (World.ownsRow.lt HO.out k hk).1)).setCell hge _, Kp.lay HO.out h2.out 1 _⟩
set_option maxHeartbeats 1000000 in
theorem must_calls {W : World} {base p : Nat} {xs : List Int} (h : PW W base p xs) (x : Int) :
    Calls Tryz.prog 267 #[.pointer (some ⟨p, 0, none⟩), .bool true, .int .i64 x] W fun r w' => r = .returned (.bool true) ∧ PW w' base p xs ∧ Below W.heap.size W w' := by
  obtain ⟨bv, hb, ho⟩ := h.out
  have hge := h.ge
  have hc0 : W.cell? ⟨p, 0, none⟩ = some (.int .i64 0) := blk_cell hb 0
  have H := Aside0.mk h
  clear ho hb h
  go_enter Tryz.func267, Tryz.ntmps267
  go_wp2
  go_ret
  exact ⟨rfl, H.out, Below.refl _ _⟩
theorem or128 (a : Nat) (h : a < 256) : a ||| 128 = a % 128 + 128 := by
  revert a
  decide +kernel
theorem u8_or128' (x : Int) (h0 : 0 ≤ x) : Go.bits .or .u8 (x % 256) 128 = x % 128 + 128 := by
  have := (bits_nat .u8 8 (by decide) wraps_u8 (x % 256).toNat 128 (by omega) (by decide)).2
  have e : (((x % 256).toNat : Nat) : Int) = x % 256 := by omega
  rw [e] at this
  have h128 : ((128 : Nat) : Int) = 128 := rfl
  rw [h128] at this
  rw [this, or128 _ (by omega)]
  omega
/-- A number's bytes. -/
def ub : Nat → Int → List Int
  | 0, _ => []
  | k + 1, v => if v < 128 then [v] else (v % 128 + 128) :: ub k (v / 128)
def ubs (v : Int) : List Int := ub 100 v
theorem ub_len : ∀ (k : Nat) (v : Int), (ub k v).length ≤ k
  | 0, _ => Nat.le_refl _
  | k + 1, v => by
    rw [ub]
    split
    · simp
    · have := ub_len k (v / 128)
      simp only [List.length_cons]; omega
theorem put_bytes : ∀ (k : Nat) (v : Int) (x0 : List Int), 0 ≤ v → v < 128 ^ (k + 1) → x0.length + k < 140737488355328 → leb_put.l0 (k + 1) x0 v = some (x0 ++ ub (k + 1) v) := by
  intro k
  induction k with
  | zero =>
    intro v x0 h0 h1 hk
    have h2 : v < 128 := h1
    rw [leb_put.l0, ub, if_neg (by omega), if_pos (by omega), if_pos h2, show v % 256 = v from Int.emod_eq_of_lt h0 (by omega)]
  | succ k ih =>
    intro v x0 h0 h1 hk
    rw [leb_put.l0, ub]
    by_cases hv : v < 128
    · rw [if_neg (by omega), if_pos (by omega), if_pos hv, show v % 256 = v from Int.emod_eq_of_lt h0 (by omega)]
    · have h2 : v / 128 < 128 ^ (k + 1) := by
        rw [Int.pow_succ] at h1
        exact Int.ediv_lt_of_lt_mul (by decide) h1
      rw [if_pos (by omega), if_pos (by omega), if_neg hv, ih (v / 128) _ (by omega) h2 (by rw [List.length_append, List.length_singleton]; omega), List.append_assoc, u8_or128' v h0]
      rfl
theorem enc_one (v : Int) (h0 : 0 ≤ v) (h1 : v < 18446744073709551616) : leb_Encode.f 101 [v] = some (ubs v) := by
  have hp := put_bytes 99 v [] h0 (Int.lt_trans h1 (by decide)) (by simp)
  rw [leb_Encode.f, leb_Encode.l0, if_pos (by simp), if_pos (by omega), if_pos (by simp), leb_put.f, show rd [v] 0 = v from rfl, hp, List.nil_append, Option.bind_some]
  rw [show wrap64 (0 + 1) = 1 from by simp [wrap64], leb_Encode.l0, if_neg (by simp)]
  rfl
theorem wrap_u64_eq (x : Int) : IntKind.u64.wrap x = x % 18446744073709551616 := by
  simp [IntKind.wrap, IntKind.bits, IntKind.signed]
set_option maxHeartbeats 1000000 in
set_option maxRecDepth 100000 in
theorem puint_calls {W : World} {base p : Nat} {xs : List Int} (h : PW W base p xs) (v : Int) (h0 : 0 ≤ v) (h1 : v < 18446744073709551616) (hl : xs.length ≤ 1099511627776) :
    Calls Tryz.prog 58 #[.pointer (some ⟨p, 0, none⟩), .int .u64 v] W fun r w' => r = .returned (.tuple #[]) ∧ PW w' base p (xs ++ ubs v) ∧ Below base W w' ∧ Kp p W w' := by
  have hlt := h.lt
  have hge := h.ge
  have henc := enc_one v h0 h1
  have hn : (ubs v).length ≤ 100 := ub_len 100 v
  have H := Aside0.mk h
  clear h h0 h1
  go_enter Tryz.func58, Tryz.ntmps58
  go_wp2_with (first | ((with_reducible refine gate_dst (N := 6) rfl ?_); refine Kd.R_lit (Kd.int .u64) _ 136 ?hg (N := 6) ?hd (xs := ([v] : List Int)) (inner := [.int .u64 v]) (ok := fun _ => True) (okp := fun _ => True) ?hr ?hp (fun _ hk => hk) trivial (Below.refl _ _) (Nat.le_refl _) (by simp) ?_; (case hd => rfl); (case hg => rfl); (case hr => first | (go_simp; done) | (go_simp; rfl)); (case hp => exact (Reps.one (show Kd.M (Kd.int .u64) _ _ _ v [.int .u64 v] from rfl) (Reps.none _ _))); intro v6 w6 ho_ hb_ hg_ hnew_; obtain ⟨A6, c6, hv6⟩ := Kd.R_slice ho_; subst hv6; have HO6 := Aside0.mk ho_; have HB6 := Aside0.mk hb_; clear ho_ hb_ hg_ hnew_) | (go_at_call 127; refine (leb_Encode.calls 101 A6 c6 [v] (ubs v) _ (Kd.R_reads' HO6.out).2.2 (Kd.R_reads' HO6.out).2.1 henc).mono ?_; rintro r w7 ⟨u7, rfl, ho_, hb_⟩; obtain ⟨A7, c7, rfl⟩ := Kd.R_slice ho_; have HB7_ := HB6.out.trans (below_weak hb_ HB6.out.size); have HO7 := Aside0.mk ho_; have HB7 := Aside0.mk HB7_; have H7 := Aside0.mk (H.out.below HB7_); clear ho_ hb_ HB7_) | (go_at_call 126; refine (play_calls H7.out (ubs v) A7 c7 (Kd.R_reads' HO7.out).2.2 (by omega)).mono ?_; rintro r w8 ⟨rfl, h8_, hb_, hk_⟩; have H8 := Aside0.mk h8_; have HB8 := Aside0.mk hb_; have HK8 := Aside0.mk hk_; clear h8_ hb_ hk_) | go_in)
  go_end0
  exact ⟨rfl, H8.out, (below_weak HB7.out (by omega)).trans HB8.out, (Kp.of HB7.out).trans HK8.out⟩
set_option maxHeartbeats 1000000 in
set_option maxRecDepth 100000 in
theorem pint_calls {W : World} {base p : Nat} {xs : List Int} (h : PW W base p xs) (v most : Int) (h0 : 0 ≤ v) (hm : v ≤ most) (h1 : most ≤ 9223372036854775807) (hl : xs.length ≤ 1099511627776) :
    Calls Tryz.prog 170 #[.pointer (some ⟨p, 0, none⟩), .int .i64 v, .int .i64 most] W fun r w' => r = .returned (.tuple #[]) ∧ PW w' base p (xs ++ ubs v) ∧ Below base W w' ∧ Kp p W w' := by
  have hge := h.ge
  have hlt := h.lt
  have H := Aside0.mk h
  have HB := Aside0.mk (Below.refl W.heap.size W)
  have h2 : 0 ≤ most := by omega
  have hw : IntKind.u64.wrap v = v := by rw [wrap_u64_eq]; omega
  have h9 : v < 18446744073709551616 := by omega
  have H9 := Aside0.mk h9
  clear h h9
  go_enter Tryz.func170, Tryz.ntmps170
  go_wp2_with (first | (go_at_call 267; refine (must_calls H.out _).mono ?_; rintro r w7 ⟨rfl, h7_, hb_⟩; have HB7 := Aside0.mk (HB.out.trans (below_weak hb_ HB.out.size)); clear H HB; have H := Aside0.mk h7_; have HB := HB7; clear h7_ hb_ HB7) | (go_at_call 58; refine (puint_calls H.out v h0 H9.out hl).mono ?_; rintro r w8 ⟨rfl, h8_, hb_, hk_⟩; have H8 := Aside0.mk h8_; have HB8 := Aside0.mk hb_; have HK8 := Aside0.mk hk_; clear h8_ hb_ hk_) | go_in)
  go_end0
  exact ⟨rfl, H8.out, (below_weak HB.out (by omega)).trans HB8.out, (Kp.of HB.out).trans HK8.out⟩
set_option maxHeartbeats 1000000 in
set_option maxRecDepth 100000 in
theorem pbytes_calls {W : World} {base p : Nat} {xs : List Int} (h : PW W base p xs) (hl : xs.length ≤ 1099511627776) :
    Calls Tryz.prog 59 #[.pointer (some ⟨p, 0, none⟩)] W fun r w' => ∃ v, r = .returned (.tuple #[v, .int .i64 0]) ∧ w'.ownsRow W.heap.size 5 1 v xs.length (nums .u8 xs) ∧ Below W.heap.size W w' := by
  obtain ⟨bv, hb, ho⟩ := h.out
  have hlt := h.lt
  have hc0 : W.cell? ⟨p, 0, none⟩ = some (.int .i64 0) := blk_cell hb 0
  have hc1 : W.cell? ⟨p, 1, none⟩ = some bv := blk_cell hb 1
  have hf0 := blk_frozen hb 0
  have hf1 := blk_frozen hb 1
  obtain ⟨Ab, cb, rfl, _⟩ := Frm.own_slice ho
  have HC := Aside0.mk (C_own ho)
  have hnil : W.ownsRow W.heap.size 5 1 (.slice none 0 0) ([] : List Int).length (nums .u8 []) := ⟨by simp [nums], .inl ⟨rfl, rfl⟩⟩
  have HN := Aside0.mk hnil
  clear ho hb h hnil
  go_enter Tryz.func59, Tryz.ntmps59
  go_wp2_with (first | ((with_reducible refine gate_dst (N := 21) rfl ?_); at_builtin; refine wp_app (base := W.heap.size) rfl (.const (.slice none 0 0)) (.tmp 20) 56 rfl Tryz.underlying56 (.slice none 0 0) [] xs Ab cb ?s_ ?x_ HN.out HC.out (by simp only [List.length_nil]; omega) (Nat.le_refl _) ?_; (case s_ => go_simp); (case x_ => go_simp); intro v1 w1 h1_ h2_ h3_; have h1 := Aside0.mk h1_; have h2 := Aside0.mk h2_; clear h1_ h2_ h3_) | go_in)
  go_ret2
  refine ⟨_, rfl, h1.out, ?_⟩
  exact (Below.refl _ W).grown h2.out (Nat.le_refl _) (fun k hk => by cases hk)
end Pk

end Go.Proofs.YtepkaaplhcbkbaaGreat.G
