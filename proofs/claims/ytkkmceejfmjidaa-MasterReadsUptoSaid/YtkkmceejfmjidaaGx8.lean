-- Written for this claim by a program of this session (wip/xprint.py), by means of the kit's print. Not trusted: Lean checks it.
import Derived.Test.YtkkmceejfmjidaaGx0
import Derived.Test.YtkkmceejfmjidaaGx1
import Derived.Test.YtkkmceejfmjidaaGx3
import Derived.Test.YtkkmceejfmjidaaGx7
namespace Go.Proofs.Ytkkmceejfmjidaa.G
open Go.RowKit Go.Proofs.YtkkmceejfmjidaaW.PrintWords Go.Proofs.YtkkmceejfmjidaaW.PrintLast Go.Proofs.YtkkmceejfmjidaaW.PrintMore
attribute [local go_sem] max2_int min2_int max_two min_two max_three min_three max_four min_four   -- for this text's walks alone
set_option linter.unusedVariables false
set_option linter.unusedSimpArgs false

/-! ### master_Decode: function 15 -/
namespace Rdr
theorem own_kept {W W' : World} {base m : Nat} {e : TypeId} {u : Value} {z : List Value} {row : Option Nat} (h : W.ownsRow base e 1 u m z) (hg : W.grownBy W' row) (hne : ∀ g, u.ownBlock = some g → row ≠ some g) : W'.ownsRow base e 1 u m z := by
  refine World.ownsRow.kept h hg ?_
  cases e : u.ownBlock with
  | none => exact .inl rfl
  | some g => exact .inr (fun h' => hne g e h'.symm)
theorem C_own {W : World} {base : Nat} {t : TypeId} {A : Option Addr} {c : Nat} {xs : List Int} (h : W.ownsRow base t 1 (.slice A xs.length c) xs.length (nums .u8 xs)) : Kd.C (Kd.int .u8) W A xs.length xs := (Kd.R_reads' (ok := fun _ => True) (Kd.R_of_own h (fun _ _ => trivial))).2.2
theorem below_weak {B B' : Nat} {a b : World} (h : Below B' a b) (hb : B ≤ B') : Below B a b := ⟨h.os, h.tape, h.output, h.size, fun k hk => h.block k (by omega)⟩
/-- All blocks but p lie as they lay. -/
structure But (p : Nat) (W w' : World) : Prop where
  os : w'.os = W.os
  tape : w'.tape = W.tape
  output : w'.output = W.output
  size : W.heap.size ≤ w'.heap.size
  block : ∀ k, k < W.heap.size → k ≠ p → w'.heap[k]? = W.heap[k]?
theorem But.refl (p : Nat) (W : World) : But p W W := ⟨rfl, rfl, rfl, Nat.le_refl _, fun _ _ _ => rfl⟩
theorem But.trans {p : Nat} {a b c : World} (h : But p a b) (g : But p b c) : But p a c :=
  ⟨g.os.trans h.os, g.tape.trans h.tape, g.output.trans h.output, Nat.le_trans h.size g.size, fun k hk hn => (g.block k (Nat.lt_of_lt_of_le hk h.size) hn).trans (h.block k hk hn)⟩
theorem But.of_below {p : Nat} {a b : World} (h : Below a.heap.size a b) : But p a b := ⟨h.os, h.tape, h.output, h.size, fun k hk _ => h.block k hk⟩
theorem But.setCell {p : Nat} {a b : World} (h : But p a b) (o : Nat) (v : Value) : But p a (b.setCell ⟨p, o, none⟩ v) :=
  ⟨h.os, h.tape, h.output, by rw [World.setCell]; simpa using h.size, fun k hk hn => (Below.heap_setCell b ⟨p, o, none⟩ v k hn).trans (h.block k hk hn)⟩
theorem But.blk {p q : Nat} {a b : World} (h : But p a b) {x : Obj} (hq : a.heap[q]? = some x) (hn : q ≠ p) : b.heap[q]? = some x := (h.block q (Array.getElem?_eq_some_iff.1 hq).1 hn).trans hq
theorem But.below {p base : Nat} {a b c : World} (h : But p b c) (hB : Below base a b) (hp : base ≤ p) (hlt : p < b.heap.size) : Below base a c :=
  hB.trans ⟨h.os, h.tape, h.output, h.size, fun k hk => h.block k (by omega) (by omega)⟩
/-- A reader of the program's: block p holds its error, its bytes (a row of its own), its place. -/
structure RW (W : World) (base p : Nat) (xs : List Int) (at_ : Nat) (e : Int) : Prop where
  out : ∃ bv, W.heap[p]? = some (.cells #[.int .i64 e, bv, .int .i64 at_, .bool true] 95 (0, 0)) ∧ W.ownsRow base 5 1 bv xs.length (nums .u8 xs)
  ge : base ≤ p
  le : at_ ≤ xs.length
  few : xs.length ≤ 1099511627776
theorem RW.lt {W : World} {base p : Nat} {xs : List Int} {a : Nat} {e : Int} (h : RW W base p xs a e) : p < W.heap.size := by
  obtain ⟨bv, hb, _⟩ := h.out
  exact blk_lt hb
theorem RW.below {W W' : World} {base p : Nat} {xs : List Int} {a : Nat} {e : Int} (h : RW W base p xs a e) (hB : Below W.heap.size W W') : RW W' base p xs a e := by
  obtain ⟨bv, hb, ho⟩ := h.out
  have hg : W.grownBy W' none := ⟨hB.os, hB.tape, hB.output, hB.size, fun k hk _ => hB.block k hk⟩
  exact ⟨⟨bv, blk_below hb hB, own_kept ho hg (fun _ _ e => by cases e)⟩, h.ge, h.le, h.few⟩
theorem RW.drewN {W : World} {base p : Nat} {xs : List Int} {a : Nat} {e : Int} (h : RW W base p xs a e) (n : Nat) : RW (W.drewN n) base p xs a e := h.below (Drawn0.below ⟨n, rfl⟩)
theorem RW.setErr {W : World} {base p : Nat} {xs : List Int} {a : Nat} {e : Int} (h : RW W base p xs a e) (e' : Int) : RW (W.setCell ⟨p, 0, none⟩ (.int .i64 e')) base p xs a e' := by
  obtain ⟨bv, hb, ho⟩ := h.out
  exact ⟨⟨bv, blk_set hb 0 _, own_setCell ho (p := ⟨p, 0, none⟩) (own_ne ho hb (by decide)) _⟩, h.ge, h.le, h.few⟩
theorem RW.setAt {W : World} {base p : Nat} {xs : List Int} {a : Nat} {e : Int} (h : RW W base p xs a e) (a' : Nat) (ha : a' ≤ xs.length) : RW (W.setCell ⟨p, 2, none⟩ (.int .i64 a')) base p xs a' e := by
  obtain ⟨bv, hb, ho⟩ := h.out
  exact ⟨⟨bv, blk_set hb 2 _, own_setCell ho (p := ⟨p, 2, none⟩) (own_ne ho hb (by decide)) _⟩, h.ge, ha, h.few⟩
/-- What an error of leb's is as one of pack's. -/
def perr (d : Int) : Int := if d = 10 then 30 else if d = 11 then 31 else if d = 12 then 32 else 0
set_option maxRecDepth 100000 in
theorem well_calls {W : World} {base p : Nat} {xs : List Int} {a : Nat} {e : Int} (h : RW W base p xs a e) :
    Calls Try.prog 63 #[.pointer (some ⟨p, 0, none⟩)] W fun r w' => r = .returned (.bool (e == 0)) ∧ w' = W := by
  obtain ⟨bv, hb, ho⟩ := h.out
  have hc0 : W.cell? ⟨p, 0, none⟩ = some (.int .i64 e) := blk_cell hb 0
  have hc3 : W.cell? ⟨p, 3, none⟩ = some (.bool true) := blk_cell hb 3
  clear ho hb h
  go_enter Try.func63, Try.ntmps63
  go_wp2
  go_ret
  exact ⟨rfl, rfl⟩
set_option maxRecDepth 100000 in
theorem ffail_calls {W : World} {p : Nat} (hc0 : W.cell? ⟨p, 0, none⟩ = some (.int .i64 0)) (hf0 : W.frozen? ⟨p, 0, none⟩ = false) (x : Int) :
    Calls Try.prog 59 #[.pointer (some ⟨p, 0, none⟩), .int .i64 x] W fun r w' => r = .returned (.tuple #[]) ∧ w' = W.setCell ⟨p, 0, none⟩ (.int .i64 x) := by
  go_enter Try.func59, Try.ntmps59
  go_wp2
  go_end0
  exact ⟨rfl, rfl⟩
set_option maxRecDepth 100000 in
theorem fail_calls {W : World} {base p : Nat} {xs : List Int} {a : Nat} (h : RW W base p xs a 0) (x : Int) :
    Calls Try.prog 67 #[.pointer (some ⟨p, 0, none⟩), .int .i64 x] W fun r w' => r = .returned (.tuple #[]) ∧ RW w' base p xs a x ∧ But p W w' := by
  have H := Aside0.mk (h.setErr x)
  have hge := h.ge
  obtain ⟨bv, hb, ho⟩ := h.out
  have hc0 : W.cell? ⟨p, 0, none⟩ = some (.int .i64 0) := blk_cell hb 0
  have hc3 : W.cell? ⟨p, 3, none⟩ = some (.bool true) := blk_cell hb 3
  have hf0 := blk_frozen hb 0
  clear ho hb h
  go_enter Try.func67, Try.ntmps67
  go_wp2_with (first | (go_at_call 59; refine (ffail_calls hc0 hf0 _).mono ?_; rintro r w7 ⟨rfl, rfl⟩) | go_in)
  go_end0
  exact ⟨rfl, H.out, (But.refl _ _).setCell _ _⟩
set_option maxRecDepth 100000 in
theorem must_calls {W : World} {base p : Nat} {xs : List Int} {a : Nat} (h : RW W base p xs a 0) (x : Int) :
    Calls Try.prog 43 #[.pointer (some ⟨p, 0, none⟩), .bool true, .int .i64 x] W fun r w' => r = .returned (.bool true) ∧ w' = W := by
  obtain ⟨bv, hb, ho⟩ := h.out
  have hc0 : W.cell? ⟨p, 0, none⟩ = some (.int .i64 0) := blk_cell hb 0
  clear ho hb h
  go_enter Try.func43, Try.ntmps43
  go_wp2
  go_ret
  exact ⟨rfl, rfl⟩
set_option maxRecDepth 100000 in
theorem mustnot_calls {W : World} {base p : Nat} {xs : List Int} {a : Nat} (h : RW W base p xs a 0) (x : Int) (hx : 0 < x) :
    Calls Try.prog 43 #[.pointer (some ⟨p, 0, none⟩), .bool false, .int .i64 x] W fun r w' => r = .returned (.bool false) ∧ RW w' base p xs a x ∧ But p W w' := by
  have H := Aside0.mk (h.setErr x)
  have hge := h.ge
  obtain ⟨bv, hb, ho⟩ := h.out
  have hc0 : W.cell? ⟨p, 0, none⟩ = some (.int .i64 0) := blk_cell hb 0
  have hf0 := blk_frozen hb 0
  have hx0 : (x == 0) = false := by simp; omega
  obtain ⟨bv', hb', ho'⟩ := H.out.out
  have hc0' : (W.setCell ⟨p, 0, none⟩ (.int .i64 x)).cell? ⟨p, 0, none⟩ = some (.int .i64 x) := blk_cell hb' 0
  clear ho hb h ho' hb'
  go_enter Try.func43, Try.ntmps43
  go_wp2_with (first | (go_at_call 59; refine (ffail_calls hc0 hf0 _).mono ?_; rintro r w7 ⟨rfl, rfl⟩) | go_in)
  go_ret
  exact ⟨rfl, H.out, (But.refl _ _).setCell _ _⟩
theorem dec_cut {w : World} {A : Option Addr} {c a : Nat} {xs : List Int} (hC : Kd.C (Kd.int .u8) w A xs.length xs) (hle : a ≤ xs.length) (hcap : xs.length ≤ c) (k : Nat) (v n d : Int) (hd : leb_Decode.f k (xs.drop a) = some (v, n, d)) (m : Nat) :
    Calls Try.prog 62 #[.slice (if c = a then A else Option.map (fun x => x.add a) A) (xs.length - a) (c - a)] (w.drewN m) fun e w' => e = .returned (.tuple #[.int .u64 v, .int .i64 n, .int .i64 d]) ∧ ∃ q, w' = (w.drewN m).drewN q := by
  have h := Kd.C_drop hC hle hcap
  have e : (Kd.int .u8).sz = 1 := rfl
  rw [e, Nat.mul_one] at h
  have hl : (xs.drop a).length = xs.length - a := List.length_drop
  have := leb_Decode.calls k (if c = a then A else A.map (·.add a)) (c - a) (xs.drop a) v n d (w.drewN m) h (by omega) hd
  rw [hl] at this
  exact this.mono fun _ _ ⟨h1, h2⟩ => ⟨h1, h2.out⟩
set_option maxHeartbeats 1000000 in
set_option maxRecDepth 100000 in
theorem num_calls {W : World} {base p : Nat} {xs : List Int} {a : Nat} (h : RW W base p xs a 0) (k : Nat) (v n d : Int) (hd : leb_Decode.f k (xs.drop a) = some (v, n, d)) (hn0 : 0 ≤ n) (hn1 : n ≤ 1099511627776) (hdd : d = 0 ∨ d = 10 ∨ d = 11 ∨ d = 12) :
    Calls Try.prog 64 #[.pointer (some ⟨p, 0, none⟩)] W fun r w' => r = .returned (.tuple #[.int .u64 v, .int .i64 (a + n), .bool (perr d == 0)]) ∧ RW w' base p xs a (perr d) ∧ But p W w' := by
  have hge := h.ge
  have hle := h.le
  have hfew := h.few
  obtain ⟨bv, hb, ho⟩ := h.out
  obtain ⟨A, c, rfl⟩ := own_slice ho
  have hcap : xs.length ≤ c := by
    rcases ho.2 with ⟨e, h0⟩ | ⟨g, cap, cur, e, _, _, h1, _⟩
    · injection e with _ _ e; omega
    · injection e with _ _ e; omega
  have hC := C_own ho
  have hc0 : W.cell? ⟨p, 0, none⟩ = some (.int .i64 0) := blk_cell hb 0
  have hc1 : W.cell? ⟨p, 1, none⟩ = some (.slice A xs.length c) := blk_cell hb 1
  have hc2 : W.cell? ⟨p, 2, none⟩ = some (.int .i64 a) := blk_cell hb 2
  have HC := Aside0.mk hC
  have HD := Aside0.mk hd
  have H := Aside0.mk h
  clear ho hb h hC hd
  go_enter Try.func64, Try.ntmps64
  go_wp2_with (first | (go_at_call 63; refine (well_calls H.out).mono ?_; rintro r w7 ⟨rfl, rfl⟩) | go_in)
  go_quiet ((go_at_call 62; exact Calls.quiet_of (dec_cut HC.out hle hcap k v n d HD.out _)))
  have hc0' : ∀ m, (w7.drewN m).cell? ⟨p, 0, none⟩ = some (.int .i64 0) := fun m => hc0
  have hs : IntKind.i64.wrap ((a : Int) + n) = (a : Int) + n := IntWalk.i64_in _ (by omega)
  rcases hdd with rfl | hdd
  · have h2 : ∀ m, (w7.drewN m).cell? ⟨p, 2, none⟩ = some (.int .i64 a) := fun m => hc2
    go_wp2
    all_goals
      go_quiet (fail)
      go_wp2
      go_ret3
      exact ⟨rfl, H.out.below (Drawn0.below ⟨_, World.drewN_drewN ..⟩), But.of_below (Drawn0.below ⟨_, World.drewN_drewN ..⟩)⟩
  · rcases hdd with rfl | rfl | rfl
    all_goals
      go_wp2_with (first | (go_at_call 67; refine (fail_calls (H.out.drewN _) _).mono ?_; rintro r w8 ⟨rfl, h8, hB8⟩) | go_in)
    all_goals
      obtain ⟨bv8, hb8, ho8⟩ := h8.out
      have h0 := blk_cell hb8 0
      have h2 := blk_cell hb8 2
      replace h0 : w8.cell? ⟨p, 0, none⟩ = some _ := h0
      replace h2 : w8.cell? ⟨p, 2, none⟩ = some (.int .i64 a) := h2
      have H8 := Aside0.mk h8
      have HB8 := Aside0.mk hB8
      clear hb8 ho8 h8 hB8
      go_quiet (fail)
      go_wp2
      go_ret3
      exact ⟨rfl, H8.out.below (Drawn0.below ⟨_, rfl⟩), (But.of_below (Drawn0.below ⟨_, rfl⟩)).trans (HB8.out.trans (But.of_below (Drawn0.below ⟨_, rfl⟩)))⟩
/-- What taking a number of at most 'most' comes to: it, the place behind it, and the error. -/
def bnd (k : Nat) (xs : List Int) (a : Nat) (most : Int) : Option (Int × Int × Int) := (leb_Decode.f k (xs.drop a)).bind fun t => if t.2.2 = 0 then if t.1 ≤ most then some (t.1, t.2.1, 0) else some (0, 0, 31) else some (0, 0, perr t.2.2)
theorem perr_zero {d : Int} (h : d = 0 ∨ d = 10 ∨ d = 11 ∨ d = 12) : perr d = 0 ↔ d = 0 := by
  rcases h with rfl | rfl | rfl | rfl <;> simp [perr]
/-- What leb's Decode answers of these bytes is as it should be. -/
structure Dok (k : Nat) (xs : List Int) (a : Nat) (v n d : Int) : Prop where
  run : leb_Decode.f k (xs.drop a) = some (v, n, d)
  v0 : 0 ≤ v
  v1 : v < 18446744073709551616
  n0 : 0 ≤ n
  n1 : a + n ≤ xs.length
  err : d = 0 ∨ d = 10 ∨ d = 11 ∨ d = 12
end Rdr
namespace Rdr
/-- A number at the place a, at most 'most': it, the place behind, the error. -/
def pint (k : Nat) (xs : List Int) (a : Nat) (most : Int) : Option (Int × Nat × Int) := (leb_Decode.f k (xs.drop a)).bind fun t => if (0 ≤ t.1 ∧ t.1 < 18446744073709551616) ∧ (0 ≤ t.2.1 ∧ a + t.2.1 ≤ xs.length) ∧ (t.2.2 = 0 ∨ t.2.2 = 10 ∨ t.2.2 = 11 ∨ t.2.2 = 12) then (if t.2.2 = 0 then (if t.1 ≤ most then some (t.1, a + t.2.1.toNat, 0) else some (0, a, 31)) else some (0, a, perr t.2.2)) else none
theorem ret3 {k1 k2 : IntKind} {a a' b b' : Int} {c c' : Bool} (h1 : a = a') (h2 : b = b') (h3 : c = c') : Ending.returned (.tuple #[.int k1 a, .int k2 b, .bool c]) = .returned (.tuple #[.int k1 a', .int k2 b', .bool c']) := by rw [h1, h2, h3]
theorem pint_ok {k : Nat} {xs : List Int} {a : Nat} {most v : Int} {a' : Nat} (h : pint k xs a most = some (v, a', 0)) : a' ≤ xs.length ∧ 0 ≤ v ∧ v ≤ most := by
  unfold pint at h
  obtain ⟨⟨v0, n, d⟩, hd, h⟩ := Option.bind_eq_some_iff.1 h
  simp only at h
  split at h
  case isFalse => cases h
  rename_i hc
  obtain ⟨⟨hv0, hv1⟩, ⟨hn0, hn1⟩, hdd⟩ := hc
  split at h
  · split at h
    · simp only [Option.some.injEq, Prod.mk.injEq] at h
      obtain ⟨rfl, rfl, _⟩ := h
      exact ⟨by omega, hv0, by assumption⟩
    · simp at h
  · rename_i hd0
    simp only [Option.some.injEq, Prod.mk.injEq] at h
    exact absurd ((perr_zero hdd).1 h.2.2) hd0
theorem pint_bad {k : Nat} {xs : List Int} {a : Nat} {most v : Int} {a' : Nat} {e : Int} (h : pint k xs a most = some (v, a', e)) (he : e ≠ 0) : a' = a ∧ v = 0 := by
  unfold pint at h
  obtain ⟨⟨v0, n, d⟩, hd, h⟩ := Option.bind_eq_some_iff.1 h
  simp only at h
  split at h
  case isFalse => cases h
  split at h
  · split at h
    · simp only [Option.some.injEq, Prod.mk.injEq] at h
      exact absurd h.2.2.symm he
    · simp only [Option.some.injEq, Prod.mk.injEq] at h
      exact ⟨h.2.1.symm, h.1.symm⟩
  · simp only [Option.some.injEq, Prod.mk.injEq] at h
    exact ⟨h.2.1.symm, h.1.symm⟩
set_option maxRecDepth 100000 in
theorem bounded_bad {W : World} {base p : Nat} {xs : List Int} {a : Nat} {e : Int} (h : RW W base p xs a e) (he : e ≠ 0) (most : Int) :
    Calls Try.prog 52 #[.pointer (some ⟨p, 0, none⟩), .int .i64 most] W fun r w' => r = .returned (.tuple #[.int .i64 0, .int .i64 0, .bool false]) ∧ w' = W := by
  have H := Aside0.mk h
  have he0 : (e == 0) = false := by simpa using he
  clear h he
  go_enter Try.func52, Try.ntmps52
  go_wp2_with (first | (go_at_call 63; refine (well_calls H.out).mono ?_; rintro r w7 ⟨rfl, rfl⟩) | fail)
  go_ret3
  exact ⟨rfl, rfl⟩
set_option maxHeartbeats 1000000 in
set_option maxRecDepth 100000 in
theorem bounded_calls {W : World} {base p : Nat} {xs : List Int} {a : Nat} (h : RW W base p xs a 0) (k : Nat) (most : Int) (hm0 : 0 ≤ most) (hm1 : most ≤ 1152921504606846976) (v : Int) (a' : Nat) (e' : Int) (hf : pint k xs a most = some (v, a', e')) :
    Calls Try.prog 52 #[.pointer (some ⟨p, 0, none⟩), .int .i64 most] W fun r w' => r = .returned (.tuple #[.int .i64 v, .int .i64 (if e' = 0 then (a' : Int) else 0), .bool (e' == 0)]) ∧ RW w' base p xs a e' ∧ But p W w' := by
  unfold pint at hf
  obtain ⟨⟨v0, n, d⟩, hd, hf⟩ := Option.bind_eq_some_iff.1 hf
  simp only at hf
  split at hf
  case isFalse => cases hf
  rename_i hc
  obtain ⟨⟨hv0, hv1⟩, ⟨hn0, hn1⟩, hdd⟩ := hc
  have hfew := h.few
  have hlt := h.lt
  have H := Aside0.mk h
  have hm : decide (0 ≤ most) = true := decide_eq_true hm0
  have hw : IntKind.u64.wrap most = most := IntWalk.u64_in _ (by omega)
  have HN := Aside0.mk (num_calls h k v0 n d hd hn0 (by omega) hdd)
  clear h hd
  by_cases hd0 : d = 0
  · subst hd0
    rw [if_pos rfl] at hf
    by_cases hle : v0 ≤ most
    · rw [if_pos hle] at hf
      simp only [Option.some.injEq, Prod.mk.injEq] at hf
      obtain ⟨rfl, rfl, rfl⟩ := hf
      have hle' : decide (v0 ≤ most) = true := decide_eq_true hle
      have hvi : IntKind.i64.wrap v0 = v0 := IntWalk.i64_in _ (by omega)
      go_enter Try.func52, Try.ntmps52
      go_wp2_with (first | (go_at_call 63; refine (well_calls H.out).mono ?_; rintro r w7 ⟨rfl, hw7⟩; subst hw7) | (go_at_call 43; (with_reducible refine (must_calls H8.out _).mono ?_); rintro r w7 ⟨rfl, hw7⟩; subst hw7) | (go_at_call 43; (with_reducible refine (must_calls H.out _).mono ?_); rintro r w7 ⟨rfl, hw7⟩; subst hw7) | (go_at_call 64; refine HN.out.mono ?_; rintro r w8 ⟨rfl, h8, hB8⟩; (have H8 := Aside0.mk (show RW w8 base p xs a 0 from h8)); (have HB8 := Aside0.mk hB8); clear h8 hB8) | go_in)
      go_ret3
      exact ⟨ret3 rfl (by omega) rfl, H8.out, HB8.out⟩
    · rw [if_neg hle] at hf
      simp only [Option.some.injEq, Prod.mk.injEq] at hf
      obtain ⟨rfl, rfl, rfl⟩ := hf
      have hle' : decide (v0 ≤ most) = false := decide_eq_false hle
      go_enter Try.func52, Try.ntmps52
      go_wp2_with (first | (go_at_call 63; refine (well_calls H.out).mono ?_; rintro r w7 ⟨rfl, hw7⟩; subst hw7) | (go_at_call 43; (with_reducible refine (mustnot_calls H8.out 31 (by decide)).mono ?_); rintro r w9 ⟨rfl, h9, hB9⟩; (have H9 := Aside0.mk h9); (have HB9 := Aside0.mk hB9); clear h9 hB9) | (go_at_call 43; (with_reducible refine (must_calls H.out _).mono ?_); rintro r w7 ⟨rfl, hw7⟩; subst hw7) | (go_at_call 64; refine HN.out.mono ?_; rintro r w8 ⟨rfl, h8, hB8⟩; (have H8 := Aside0.mk (show RW w8 base p xs a 0 from h8)); (have HB8 := Aside0.mk hB8); clear h8 hB8) | go_in)
      go_ret3
      exact ⟨ret3 rfl (by first | rfl | rw [if_neg (by decide)]) (by first | rfl | decide), H9.out, HB8.out.trans HB9.out⟩
  · rw [if_neg hd0] at hf
    simp only [Option.some.injEq, Prod.mk.injEq] at hf
    obtain ⟨rfl, rfl, rfl⟩ := hf
    have hp : (perr d == 0) = false := by have := mt (perr_zero hdd).1 hd0; simpa using this
    have hp' : perr d ≠ 0 := mt (perr_zero hdd).1 hd0
    generalize perr d = pd at HN hp hp' ⊢
    go_enter Try.func52, Try.ntmps52
    go_wp2_with (first | (go_at_call 63; refine (well_calls H.out).mono ?_; rintro r w7 ⟨rfl, hw7⟩; subst hw7) | (go_at_call 43; (with_reducible refine (must_calls H.out _).mono ?_); rintro r w7 ⟨rfl, hw7⟩; subst hw7) | (go_at_call 64; refine HN.out.mono ?_; rintro r w8 ⟨rfl, h8, hB8⟩; (have H8 := Aside0.mk h8); (have HB8 := Aside0.mk hB8); clear h8 hB8) | go_in)
    go_ret3
    exact ⟨ret3 rfl (by first | rfl | rw [if_neg hp']) (by first | rfl | exact hp.symm), H8.out, HB8.out⟩
/-- A number taken up in any state. -/
def PInt (k : Nat) (xs : List Int) (a : Nat) (e most : Int) : Option (Int × Nat × Int) := if e = 0 then pint k xs a most else some (0, a, e)
set_option maxHeartbeats 1000000 in
set_option maxRecDepth 100000 in
theorem int_calls {W : World} {base p : Nat} {xs : List Int} {a : Nat} {e : Int} (h : RW W base p xs a e) (k : Nat) (most : Int) (hm0 : 0 ≤ most) (hm1 : most ≤ 1152921504606846976) (v : Int) (a' : Nat) (e' : Int) (hf : PInt k xs a e most = some (v, a', e')) :
    Calls Try.prog 34 #[.pointer (some ⟨p, 0, none⟩), .int .i64 most] W fun r w' => r = .returned (.int .i64 v) ∧ RW w' base p xs a' e' ∧ But p W w' := by
  unfold PInt at hf
  have hge := h.ge
  by_cases he : e = 0
  · subst he
    rw [if_pos rfl] at hf
    have HN := Aside0.mk (bounded_calls h k most hm0 hm1 v a' e' hf)
    have HF := Aside0.mk hf
    clear h hf
    by_cases h0 : e' = 0
    · subst h0
      rw [if_pos rfl] at HN
      go_enter Try.func34, Try.ntmps34
      go_upto_region 2 with (first | (go_at_call 52; refine HN.out.mono ?_; rintro r w8 ⟨rfl, h8, hB8⟩; (have H8 := Aside0.mk h8); (have HB8 := Aside0.mk hB8); clear h8 hB8) | go_in)
      obtain ⟨bv, hb, ho⟩ := H8.out.out
      have c2 : w8.cell? ⟨p, 2, none⟩ = some (.int .i64 a) := blk_cell hb 2
      have f2 : w8.frozen? ⟨p, 2, none⟩ = false := blk_frozen hb 2
      clear hb ho
      go_wp2
      go_ret
      exact ⟨rfl, H8.out.setAt a' (pint_ok HF.out).1, HB8.out.setCell _ _⟩
    · rw [if_neg h0] at HN
      have hb0 : (e' == 0) = false := by simpa using h0
      rw [hb0] at HN
      go_enter Try.func34, Try.ntmps34
      go_wp2_with (first | (go_at_call 52; refine HN.out.mono ?_; rintro r w8 ⟨rfl, h8, hB8⟩; (have H8 := Aside0.mk h8); (have HB8 := Aside0.mk hB8); clear h8 hB8) | go_in)
      go_ret
      obtain ⟨rfl, rfl⟩ := pint_bad HF.out h0
      exact ⟨rfl, H8.out, HB8.out⟩
  · rw [if_neg he] at hf
    simp only [Option.some.injEq, Prod.mk.injEq] at hf
    obtain ⟨rfl, rfl, rfl⟩ := hf
    have H := Aside0.mk h
    have HN := Aside0.mk (bounded_bad h he most)
    clear h
    go_enter Try.func34, Try.ntmps34
    go_wp2_with (first | (go_at_call 52; refine HN.out.mono ?_; rintro r w8 ⟨rfl, hw8⟩; subst hw8) | go_in)
    go_ret
    exact ⟨rfl, H.out, But.refl _ _⟩
end Rdr
namespace Rdr
/-- A text at the place a, of at most 'most' bytes. -/
def ptext (k : Nat) (xs : List Int) (a : Nat) (most : Int) : Option (ByteArray × Nat × Int) := (pint k xs a most).bind fun t => if t.2.2 = 0 then (if t.2.1 + t.1.toNat ≤ xs.length then some (strOfNums ((xs.take (t.2.1 + t.1.toNat)).drop t.2.1), t.2.1 + t.1.toNat, 0) else some (⟨#[]⟩, a, 30)) else some (⟨#[]⟩, a, t.2.2)
theorem ret3s {k2 : IntKind} {a a' : ByteArray} {b b' : Int} {c c' : Bool} (h1 : a = a') (h2 : b = b') (h3 : c = c') : Ending.returned (.tuple #[.string a, .int k2 b, .bool c]) = .returned (.tuple #[.string a', .int k2 b', .bool c']) := by rw [h1, h2, h3]
set_option maxRecDepth 100000 in
theorem text_bad {W : World} {base p : Nat} {xs : List Int} {a : Nat} {e : Int} (h : RW W base p xs a e) (he : e ≠ 0) (most : Int) :
    Calls Try.prog 51 #[.pointer (some ⟨p, 0, none⟩), .int .i64 most] W fun r w' => r = .returned (.tuple #[.string ⟨#[]⟩, .int .i64 0, .bool false]) ∧ Drawn0 W w' := by
  have HN := Aside0.mk (bounded_bad h he most)
  clear h
  go_enter Try.func51, Try.ntmps51
  go_wp2_with (first | (go_at_call 52; refine HN.out.mono ?_; rintro r w8 ⟨rfl, hw8⟩; subst hw8) | go_in)
  go_quiet (fail)
  go_wp2
  go_ret3
  exact ⟨rfl, ⟨_, rfl⟩⟩
set_option maxHeartbeats 2000000 in
set_option maxRecDepth 100000 in
theorem text_calls {W : World} {base p : Nat} {xs : List Int} {a : Nat} (h : RW W base p xs a 0) (k : Nat) (most : Int) (hm0 : 0 ≤ most) (hm1 : most ≤ 1152921504606846976) (s : ByteArray) (a' : Nat) (e' : Int) (hf : ptext k xs a most = some (s, a', e')) :
    Calls Try.prog 51 #[.pointer (some ⟨p, 0, none⟩), .int .i64 most] W fun r w' => r = .returned (.tuple #[.string s, .int .i64 (if e' = 0 then (a' : Int) else 0), .bool (e' == 0)]) ∧ RW w' base p xs a e' ∧ But p W w' := by
  unfold ptext at hf
  obtain ⟨⟨n, at_, d⟩, hd, hf⟩ := Option.bind_eq_some_iff.1 hf
  simp only at hf
  have hfew := h.few
  have hge := h.ge
  have HN := Aside0.mk (bounded_calls h k most hm0 hm1 n at_ d hd)
  clear h
  by_cases hd0 : d = 0
  · subst hd0
    obtain ⟨hat, hn0, hn1⟩ := pint_ok hd
    clear hd
    rw [if_pos rfl] at hf HN
    have hw1 : IntKind.i64.wrap ((xs.length : Int) - at_) = (xs.length : Int) - at_ := IntWalk.i64_in _ (by omega)
    have hw2 : IntKind.i64.wrap ((at_ : Int) + n) = (at_ : Int) + n := by by_cases h : n ≤ 2305843009213693952 <;> exact IntWalk.i64_in _ (by omega)
    by_cases hle : at_ + n.toNat ≤ xs.length
    · rw [if_pos hle] at hf
      simp only [Option.some.injEq, Prod.mk.injEq] at hf
      obtain ⟨rfl, rfl, rfl⟩ := hf
      have hle' : decide (n ≤ (xs.length : Int) - at_) = true := decide_eq_true (by omega)
      go_enter Try.func51, Try.ntmps51
      go_wp2_with (first | (go_at_call 52; refine HN.out.mono ?_; rintro r w8 ⟨rfl, h8, hB8⟩; (have H8 := Aside0.mk (show RW w8 base p xs a 0 from h8)); (have HB8 := Aside0.mk hB8); obtain ⟨⟨bv, hb, ho⟩, _, _, _⟩ := h8; obtain ⟨A, c, rfl⟩ := own_slice ho; (have hc1 : w8.cell? ⟨p, 1, none⟩ = some (.slice A xs.length c) := blk_cell hb 1); (have HO := Aside0.mk ho); clear hB8 hb ho) | go_in)
      go_quiet ((go_at_call 43; exact Calls.quiet_of_same (must_calls (H8.out.drewN _) _)))
      have hcap : xs.length ≤ c := by
        rcases HO.out.2 with ⟨e, h0⟩ | ⟨g, cap, cur, e, _, _, h1, _⟩
        · injection e with _ _ e; omega
        · injection e with _ _ e; omega
      have hC := C_own HO.out
      obtain ⟨i018, hi018, _, hsz18, _⟩ := info_parts info5
      obtain ⟨A18, hcut18, hA18, hC18⟩ := print_mid_of (P := Try.prog) (Value.int .u8) 0 30 5 .i64 .i64 Try.underlying30 hi018 hsz18 A c xs (at_ : Int) ((at_ : Int) + n) (by omega) (by omega) (by omega) hcap
      have HR217 := Kd.C_of_reads (h1 := fun _ => rfl) (hA18 _ (Kd.reads_of_C hC))
      have e1 : ((at_ : Int) + n).toNat = at_ + n.toNat := by omega
      have e2 : ((at_ : Int)).toNat = at_ := Int.toNat_natCast _
      have e3 : ((xs.take (at_ + n.toNat)).drop at_).length = n.toNat := by rw [List.length_drop, List.length_take]; omega
      rw [e1, e2] at HR217
      rw [e3] at HR217
      rw [e1, e2, e3] at hcut18
      have hcv19 := fun m => Kd.C_string (P := Try.prog) (A := A18) (c := (c - at_)) Try.underlying30 Try.underlying5 Try.underlying9 (Kd.C_drewN HR217 m)
      clear e1 e2 e3
      clear hA18 hC18 hi018 hsz18 hC HR217
      have hc1' : ∀ m, (w8.drewN m).cell? ⟨p, 1, none⟩ = some (.slice A xs.length c) := fun m => hc1
      go_wp2
      go_ret3
      exact ⟨ret3s rfl (by omega) rfl, H8.out.drewN _, HB8.out.trans (But.of_below (Drawn0.below ⟨_, rfl⟩))⟩
    · rw [if_neg hle] at hf
      simp only [Option.some.injEq, Prod.mk.injEq] at hf
      obtain ⟨rfl, rfl, rfl⟩ := hf
      have hle' : decide (n ≤ (xs.length : Int) - at_) = false := decide_eq_false (by omega)
      go_enter Try.func51, Try.ntmps51
      go_wp2_with (first | (go_at_call 52; refine HN.out.mono ?_; rintro r w8 ⟨rfl, h8, hB8⟩; (have H8 := Aside0.mk (show RW w8 base p xs a 0 from h8)); (have HB8 := Aside0.mk hB8); obtain ⟨⟨bv, hb, ho⟩, _, _, _⟩ := h8; obtain ⟨A, c, rfl⟩ := own_slice ho; (have hc1 : w8.cell? ⟨p, 1, none⟩ = some (.slice A xs.length c) := blk_cell hb 1); (have HO := Aside0.mk ho); clear hB8 hb ho) | go_in)
      go_still_tail 15, (by kernel_rfl)
      repeat still_step
      (try refine wpStill_nil ?_)
      change wpList _ _ _ _ _ w8.drew
      have hz_ := Aside0.mk (H8.out.drewN 1)
      change Aside0 (RW w8.drew base p xs a 0) at hz_
      generalize hw9 : w8.drew = w9 at hz_ ⊢
      have HW9 := Aside0.mk hw9
      clear hw9
      go_wp2_with (first | (go_at_call 43; (with_reducible refine (mustnot_calls hz_.out 30 (by decide)).mono ?_); rintro r w10 ⟨rfl, h9, hB9⟩; (have H9 := Aside0.mk h9); (have HB9 := Aside0.mk hB9); clear h9 hB9) | go_in)
      go_ret3
      exact ⟨ret3s rfl (by omega) rfl, H9.out, (HB8.out.trans (But.of_below (show Below w8.heap.size w8 w9 from HW9.out ▸ Drawn0.below ⟨1, rfl⟩))).trans HB9.out⟩
  · rw [if_neg hd0] at hf HN
    simp only [Option.some.injEq, Prod.mk.injEq] at hf
    obtain ⟨rfl, rfl, rfl⟩ := hf
    have hp : (d == 0) = false := by simpa using hd0
    rw [hp] at HN
    go_enter Try.func51, Try.ntmps51
    go_wp2_with (first | (go_at_call 52; refine HN.out.mono ?_; rintro r w8 ⟨rfl, h8, hB8⟩; (have H8 := Aside0.mk h8); (have HB8 := Aside0.mk hB8); clear hB8 h8) | go_in)
    go_quiet (fail)
    go_wp2
    go_ret3
    exact ⟨ret3s rfl (by first | rfl | rw [if_neg hd0]) (by first | rfl | exact hp.symm), H8.out.drewN _, HB8.out.trans (But.of_below (Drawn0.below ⟨_, rfl⟩))⟩
/-- A text taken up in any state. -/
def PText (k : Nat) (xs : List Int) (a : Nat) (e most : Int) : Option (ByteArray × Nat × Int) := if e = 0 then ptext k xs a most else some (⟨#[]⟩, a, e)
theorem ptext_ok {k : Nat} {xs : List Int} {a : Nat} {most : Int} {s : ByteArray} {a' : Nat} (h : ptext k xs a most = some (s, a', 0)) : a' ≤ xs.length := by
  unfold ptext at h
  obtain ⟨⟨n, at_, d⟩, hd, h⟩ := Option.bind_eq_some_iff.1 h
  simp only at h
  split at h
  · split at h
    · simp only [Option.some.injEq, Prod.mk.injEq] at h
      omega
    · simp at h
  · rename_i hd0
    simp only [Option.some.injEq, Prod.mk.injEq] at h
    exact absurd h.2.2 hd0
theorem ptext_bad {k : Nat} {xs : List Int} {a : Nat} {most : Int} {s : ByteArray} {a' : Nat} {e : Int} (h : ptext k xs a most = some (s, a', e)) (he : e ≠ 0) : a' = a ∧ s = ⟨#[]⟩ := by
  unfold ptext at h
  obtain ⟨⟨n, at_, d⟩, hd, h⟩ := Option.bind_eq_some_iff.1 h
  simp only at h
  split at h
  · split at h
    · simp only [Option.some.injEq, Prod.mk.injEq] at h
      exact absurd h.2.2.symm he
    · simp only [Option.some.injEq, Prod.mk.injEq] at h
      exact ⟨h.2.1.symm, h.1.symm⟩
  · simp only [Option.some.injEq, Prod.mk.injEq] at h
    exact ⟨h.2.1.symm, h.1.symm⟩
set_option maxHeartbeats 1000000 in
set_option maxRecDepth 100000 in
theorem Text_calls {W : World} {base p : Nat} {xs : List Int} {a : Nat} {e : Int} (h : RW W base p xs a e) (k : Nat) (most : Int) (hm0 : 0 ≤ most) (hm1 : most ≤ 1152921504606846976) (v : ByteArray) (a' : Nat) (e' : Int) (hf : PText k xs a e most = some (v, a', e')) :
    Calls Try.prog 33 #[.pointer (some ⟨p, 0, none⟩), .int .i64 most] W fun r w' => r = .returned (.string v) ∧ RW w' base p xs a' e' ∧ But p W w' := by
  unfold PText at hf
  have hge := h.ge
  by_cases he : e = 0
  · subst he
    rw [if_pos rfl] at hf
    have HN := Aside0.mk (text_calls h k most hm0 hm1 v a' e' hf)
    have HF := Aside0.mk hf
    clear h hf
    by_cases h0 : e' = 0
    · subst h0
      rw [if_pos rfl] at HN
      go_enter Try.func33, Try.ntmps33
      go_upto_region 2 with (first | (go_at_call 51; refine HN.out.mono ?_; rintro r w8 ⟨rfl, h8, hB8⟩; (have H8 := Aside0.mk h8); (have HB8 := Aside0.mk hB8); clear h8 hB8) | go_in)
      obtain ⟨bv, hb, ho⟩ := H8.out.out
      have c2 : w8.cell? ⟨p, 2, none⟩ = some (.int .i64 a) := blk_cell hb 2
      have f2 : w8.frozen? ⟨p, 2, none⟩ = false := blk_frozen hb 2
      clear hb ho
      go_wp2
      go_ret
      exact ⟨rfl, H8.out.setAt a' (ptext_ok HF.out), HB8.out.setCell _ _⟩
    · rw [if_neg h0] at HN
      have hb0 : (e' == 0) = false := by simpa using h0
      rw [hb0] at HN
      go_enter Try.func33, Try.ntmps33
      go_wp2_with (first | (go_at_call 51; refine HN.out.mono ?_; rintro r w8 ⟨rfl, h8, hB8⟩; (have H8 := Aside0.mk h8); (have HB8 := Aside0.mk hB8); clear h8 hB8) | go_in)
      go_ret
      obtain ⟨rfl, rfl⟩ := ptext_bad HF.out h0
      exact ⟨rfl, H8.out, HB8.out⟩
  · rw [if_neg he] at hf
    simp only [Option.some.injEq, Prod.mk.injEq] at hf
    obtain ⟨rfl, rfl, rfl⟩ := hf
    have H := Aside0.mk h
    have HN := Aside0.mk (text_bad h he most)
    clear h
    go_enter Try.func33, Try.ntmps33
    go_wp2_with (first | (go_at_call 51; refine HN.out.mono ?_; rintro r w8 ⟨rfl, ⟨q, hq⟩⟩; subst hq) | go_in)
    go_ret
    exact ⟨rfl, H.out.drewN _, But.of_below (Drawn0.below ⟨_, rfl⟩)⟩
/-- What End answers. -/
def PEnd (xs : List Int) (a : Nat) (e : Int) : Int := if e = 0 then (if a < xs.length then 34 else 0) else e
set_option maxRecDepth 100000 in
theorem err_calls {W : World} {base p : Nat} {xs : List Int} {a : Nat} {e : Int} (h : RW W base p xs a e) :
    Calls Try.prog 53 #[.pointer (some ⟨p, 0, none⟩)] W fun r w' => r = .returned (.int .i64 e) ∧ w' = W := by
  obtain ⟨bv, hb, ho⟩ := h.out
  have hc0 : W.cell? ⟨p, 0, none⟩ = some (.int .i64 e) := blk_cell hb 0
  have hc3 : W.cell? ⟨p, 3, none⟩ = some (.bool true) := blk_cell hb 3
  clear ho hb h
  go_enter Try.func53, Try.ntmps53
  go_wp2
  go_ret
  exact ⟨rfl, rfl⟩
set_option maxRecDepth 100000 in
theorem left_calls {W : World} {base p : Nat} {xs : List Int} {a : Nat} {e : Int} (h : RW W base p xs a e) :
    Calls Try.prog 54 #[.pointer (some ⟨p, 0, none⟩)] W fun r w' => r = .returned (.int .i64 ((xs.length : Int) - a)) ∧ Drawn0 W w' := by
  have hle := h.le
  have hfew := h.few
  obtain ⟨bv, hb, ho⟩ := h.out
  obtain ⟨A, c, rfl⟩ := own_slice ho
  have hc1 : W.cell? ⟨p, 1, none⟩ = some (.slice A xs.length c) := blk_cell hb 1
  have hc2 : W.cell? ⟨p, 2, none⟩ = some (.int .i64 a) := blk_cell hb 2
  have hs : IntKind.i64.wrap ((xs.length : Int) - a) = (xs.length : Int) - a := IntWalk.i64_in _ (by omega)
  clear ho hb h
  go_enter Try.func54, Try.ntmps54
  go_wp2
  go_quiet (fail)
  go_wp2
  go_ret
  exact ⟨rfl, ⟨_, rfl⟩⟩
set_option maxRecDepth 100000 in
theorem end_calls {W : World} {base p : Nat} {xs : List Int} {a : Nat} {e : Int} (h : RW W base p xs a e) :
    Calls Try.prog 35 #[.pointer (some ⟨p, 0, none⟩)] W fun r w' => r = .returned (.int .i64 (PEnd xs a e)) ∧ Drawn0 W w' := by
  have hle := h.le
  have hfew := h.few
  have H := Aside0.mk h
  clear h
  unfold PEnd
  by_cases he : e = 0
  · subst he
    rw [if_pos rfl]
    by_cases hlt : a < xs.length
    · rw [if_pos hlt]
      have b1 : decide (0 < (xs.length : Int) - a) = true := decide_eq_true (by omega)
      go_enter Try.func35, Try.ntmps35
      go_wp2_with (first | (go_at_call 53; refine (err_calls H.out).mono ?_; rintro r w8 ⟨rfl, hw8⟩; subst hw8) | (go_at_call 54; refine (left_calls H.out).mono ?_; rintro r w8 ⟨rfl, ⟨q, hq⟩⟩; subst hq) | go_in)
      go_ret
      exact ⟨rfl, ⟨_, rfl⟩⟩
    · rw [if_neg hlt]
      have b1 : decide (0 < (xs.length : Int) - a) = false := decide_eq_false (by omega)
      go_enter Try.func35, Try.ntmps35
      go_wp2_with (first | (go_at_call 53; refine (err_calls H.out).mono ?_; rintro r w8 ⟨rfl, hw8⟩; subst hw8) | (go_at_call 54; refine (left_calls H.out).mono ?_; rintro r w8 ⟨rfl, ⟨q, hq⟩⟩; subst hq) | go_in)
      go_ret
      exact ⟨rfl, ⟨_, rfl⟩⟩
  · rw [if_neg he]
    have b0 : (e == 0) = false := by simpa using he
    go_enter Try.func35, Try.ntmps35
    go_wp2_with (first | (go_at_call 53; refine (err_calls H.out).mono ?_; rintro r w8 ⟨rfl, hw8⟩; subst hw8) | (go_at_call 54; refine (left_calls H.out).mono ?_; rintro r w8 ⟨rfl, ⟨q, hq⟩⟩; subst hq) | go_in)
    go_ret
    exact ⟨rfl, ⟨0, rfl⟩⟩
end Rdr
namespace Rdr
open Go.Proofs.Ytkkmceejfmjidaa.Blocks
theorem nums_app (k : IntKind) (a b : List Int) : nums k (a ++ b) = nums k a ++ nums k b := by simp [nums]
theorem info_u8 : (Try.prog.info? 5).map (fun i => (i.zero, i.size, i.bytes)) = some (some (.int .u8 0), 1, 1) := by kernel_rfl
/-- An append upon a row of one's own, out of any bytes that are read. -/
theorem run_app {W : World} {base : Nat} {u : Value} {xs ys : List Int} (ho : W.ownsRow base 5 1 u xs.length (nums .u8 xs)) {A : Option Addr} {c : Nat} (hC : Kd.C (Kd.int .u8) W A ys.length ys) (t ty : TypeId) (ht : Try.prog.underlying t = some (.slice 5))
    (hl : xs.length + ys.length ≤ 140737488355328) (hb : base ≤ W.heap.size) :
    ∃ v' w', (Builtin.append_ #[t, t] ty #[u, .slice A ys.length c]).run Try.prog W = .ok v' w' ∧ w'.ownsRow base 5 1 v' (xs ++ ys).length (nums .u8 (xs ++ ys)) ∧ W.grownBy w' u.ownBlock ∧ (v'.ownBlock = u.ownBlock ∨ v'.ownBlock = some W.heap.size) := by
  obtain ⟨i0, hi, hzz⟩ := Option.map_eq_some_iff.1 info_u8
  simp only [Prod.mk.injEq] at hzz
  obtain ⟨hz0, hz1, hz2⟩ := hzz
  by_cases hm : ys = []
  · subst hm
    obtain ⟨Au, cu, rfl⟩ := own_slice ho
    have hcu : xs.length ≤ cu := by
      rcases ho.2 with ⟨e, h0⟩ | ⟨g, cap, cur, e, _, _, h1, _⟩
      · injection e with _ _ e; omega
      · injection e with _ _ e; omega
    have hsrc : Src Try.prog i0.size t (.slice A 0 c) 0 [] W := by
      cases A with
      | none => exact Src.ofNil W ht c
      | some a => exact Src.ofSlice W ht a 0 c [] (by simp) (by simp) (by simp)
    refine ⟨_, _, run_append_nothing W t t ty 5 i0 ht hi _ _ _ hcu _ hsrc, ?_, ⟨rfl, rfl, rfl, Nat.le_refl _, fun k _ _ => rfl⟩, .inl rfl⟩
    rw [List.append_nil]
    exact ho
  · have hp : 0 < ys.length := List.length_pos_iff.2 hm
    obtain ⟨ad, rfl, hnews⟩ := cells_of_C hC hp
    obtain ⟨v', w', hrun, hown, hg, _, hat⟩ := run_append_own_at (P := Try.prog) W base t ty 5 i0 (.int .u8 0) 1 1 ht hi hz0 hz1 hz2 rfl (by decide) u xs.length (nums .u8 xs) ho ad ys.length c (nums .u8 ys) (by rw [nums_length, Nat.mul_one]) hnews (nums_one _ _) (by simp only [maxLen]; omega) (by omega) hb
    refine ⟨v', w', hrun, ?_, hg, hat⟩
    rw [List.length_append, nums_app]
    exact hown
theorem wp_app {W : World} {base : Nat} {ops : Array Oper} {rest : List Oper} {o : Oper} {a : Act} {Q : Exit → Act → World → Prop} (hgd : o.guard = none) (s z : Operand) (t : TypeId) (hop : o.op = .call { callee := .builtin .append, args := #[s, z], argTypes := #[t, t] }) (ht : Try.prog.underlying t = some (.slice 5))
    (u : Value) (xs ys : List Int) (A : Option Addr) (c : Nat) (hs : a.eval s = u) (hx : a.eval z = .slice A ys.length c) (ho : W.ownsRow base 5 1 u xs.length (nums .u8 xs)) (hC : Kd.C (Kd.int .u8) W A ys.length ys)
    (hl : xs.length + ys.length ≤ 140737488355328) (hb : base ≤ W.heap.size)
    (h : ∀ v1 w1, w1.ownsRow base 5 1 v1 (xs ++ ys).length (nums .u8 (xs ++ ys)) → W.grownBy w1 u.ownBlock → (v1.ownBlock = u.ownBlock ∨ v1.ownBlock = some W.heap.size) → wpList Try.prog ops Q rest (a.put o.dst v1) w1) :
    wpList Try.prog ops Q (o :: rest) a W := by
  obtain ⟨v1, w1, hrun, h1, h2, h3⟩ := run_app ho (c := c) hC t o.type ht hl hb
  refine wpList_plain hgd fun K hK' => ?_
  unfold Oper.wp
  simp [execOp, hop, resolve, invoke, builtin, hs, hx, hrun, Result.andThen]
  exact hK' _ _ (h v1 w1 h1 h2 h3)
theorem below_of_grown {W w1 : World} (h : W.grownBy w1 none) : Below W.heap.size W w1 := ⟨h.os, h.tape, h.output, h.size, fun k hk => h.block k hk (by simp)⟩
set_option maxRecDepth 100000 in
theorem new_calls {W : World} {A : Option Addr} {c : Nat} {xs : List Int} (hC : Kd.C (Kd.int .u8) W A xs.length xs) (hl : xs.length ≤ 1099511627776) :
    Calls Try.prog 31 #[.slice A xs.length c] W fun r w' => ∃ p, r = .returned (.pointer (some ⟨p, 0, none⟩)) ∧ RW w' W.heap.size p xs 0 0 ∧ Below W.heap.size W w' := by
  have HC := Aside0.mk hC
  clear hC
  go_enter Try.func31, Try.ntmps31
  go_wp2_with (first | ((with_reducible refine gate_builtin (b := .append) (xs := #[.const (.slice none 0 0), .tmp 3]) rfl ?_); at_builtin; refine wp_app (base := W.heap.size) rfl (.const (.slice none 0 0)) (.tmp 3) 30 rfl Try.underlying30 (.slice none 0 0) [] xs A c ?s_ ?x_ ?o_ HC.out ?l_ (Nat.le_refl _) ?_; (case s_ => rfl); (case x_ => rfl); (case o_ => exact ⟨rfl, .inl ⟨rfl, rfl⟩⟩); (case l_ => show 0 + xs.length ≤ _; omega); rw [List.nil_append]; intro v1 w1 h1_ h2_ h3_; obtain ⟨A1, c1, hv1⟩ := own_slice h1_; subst hv1; have h1 := Aside0.mk h1_; have h2 := Aside0.mk (below_of_grown h2_); clear h1_ h2_ h3_) | go_in)
  go_ret
  refine ⟨_, rfl, ⟨⟨_, blk_new _ _, ?_⟩, h2.out.size, Nat.zero_le _, hl⟩, h2.out.alloc h2.out.size _⟩
  exact h1.out.alloc _
/-- A text's bytes, as numbers. -/
def bytesOf (s : ByteArray) : List Int := s.data.toList.map fun b => (b.toNat : Int)
theorem bytesOf_len (s : ByteArray) : (bytesOf s).length = s.size := by
  unfold bytesOf
  rw [List.length_map, Array.length_toList]
  rfl
theorem below_bytes (w : World) (e : TypeId) (s : ByteArray) : Below w.heap.size w (Lib.bytesWorld w e s) := ⟨rfl, rfl, rfl, by rw [Lib.bytesWorld_size]; omega, fun k hk => Lib.bytesWorld_at_old w e s k hk⟩
theorem C_cells {W : World} {g : Nat} {l : List Int} (hl : l.length ≤ 9223372036854775807) (h : ∀ j x, l[j]? = some x → W.cell? ⟨g, j, none⟩ = some (.int .u8 x)) : Kd.C (Kd.int .u8) W (some ⟨g, 0, none⟩) l.length l := by
  refine ⟨rfl, hl, fun _ => ⟨_, rfl, fun j p hj => ⟨[.int .u8 p], rfl, rfl, fun i u hu => ?_⟩⟩⟩
  have hi : i = 0 := by
    rcases i with _ | i
    · rfl
    · simp at hu
  subst hi
  have hu : Value.int .u8 p = u := by simpa using hu
  subst hu
  have : (⟨g, 0, none⟩ : Addr).add (j * (Kd.int .u8).sz + 0) = ⟨g, j, none⟩ := by
    rw [show j * (Kd.int .u8).sz + 0 = j from Nat.mul_one j]
    unfold Addr.add; split <;> simp_all
  rw [this]
  exact h j p hj
theorem C_bytes (w : World) (e : TypeId) (s : ByteArray) (hs : s.size ≤ 9223372036854775807) : Kd.C (Kd.int .u8) (Lib.bytesWorld w e s) (some ⟨w.heap.size, 0, none⟩) (bytesOf s).length (bytesOf s) := by
  refine C_cells (by rw [bytesOf_len]; exact hs) (fun j x hj => ?_)
  have hlt : j < s.size := by rw [← bytesOf_len]; exact (List.getElem?_eq_some_iff.1 hj).1
  rw [Lib.bytesWorld_cell w e s j hlt]
  have hlt2 : j < s.data.toList.length := by rw [Array.length_toList]; exact hlt
  have hx : ((s.data.toList.getD j 0).toNat : Int) = x := by
    unfold bytesOf at hj
    rw [List.getElem?_map, List.getElem?_eq_getElem hlt2] at hj
    rw [List.getD_eq_getElem?_getD, List.getElem?_eq_getElem hlt2]
    exact Option.some.inj hj
  rw [hx]
end Rdr
namespace Rdr
open Go.Proofs.Ytkkmceejfmjidaa.Blocks
theorem wpList_load_row_g {P : Program} {ops : Array Oper} {rest : List Oper} {o : Oper} {a : Act} {w : World} {Q : Exit → Act → World → Prop} (hwt : Region.wanted o (yielded ops a.tmps) = true) (ty : TypeId) (x : Operand) (ho : o.op = .load ty x)
    (g : Nat) (hx : a.eval x = .pointer (some ⟨g, 0, none⟩)) (t : TypeId) (cs : Array Value) (fr : Nat × Nat) (d : TypeDesc) (hg : w.heap[g]? = some (.cells cs t fr))
    (hu : P.underlying ty = some d) (hd : (match d with | .struct _ | .array _ _ => true | _ => false) = true) (hi : (P.info? ty).map (·.size) = some cs.size)
    (h : wpList P ops Q rest (a.put o.dst (.agg cs)) w) : wpList P ops Q (o :: rest) a w :=
  wpList_step fun K hK => by
    simp only [hwt, if_true]
    exact wp_load_row ty x ho g hx t cs fr d hg hu hd hi (hK _ _ h)
theorem results_cell_slot {P : Program} {fn : Func} {p s : Tmp} {ty : TypeId} (h : fn.results = #[.cell p ty, .tmp s]) (tmps : Array Value) (w : World) (g : Nat) (t : TypeId) (cs : Array Value) (fr : Nat × Nat) (d : TypeDesc)
    (hp : tmps.getD p undef = .pointer (some ⟨g, 0, none⟩)) (hg : w.heap[g]? = some (.cells cs t fr))
    (hu : P.underlying ty = some d) (hd : (match d with | .struct _ | .array _ _ => true | _ => false) = true) (hi : (P.info? ty).map (·.size) = some cs.size) :
    (results fn tmps).run P w = .ok (.tuple #[.agg cs, tmps.getD s undef]) w := by
  have hp' : tmps[p]?.getD undef = .pointer (some ⟨g, 0, none⟩) := by simpa using hp
  simp [results, h, hp', asAddr, run_loadVar_row w g t ty cs fr d hg hu hd hi]
theorem R_below {W W' : World} {base : Nat} {v : Value} {xs : List Int} (h : Kd.R (Kd.int .i64) 3 W base (fun _ => True) v xs) (hB : Below W.heap.size W W') : Kd.R (Kd.int .i64) 3 W' base (fun _ => True) v xs := by
  have hg : W.grownBy W' none := ⟨hB.os, hB.tape, hB.output, hB.size, fun k hk _ => hB.block k hk⟩
  refine Kd.R_of_own ?_ (fun _ _ => trivial)
  refine World.ownsRow.kept (Kd.own_of_R h) hg ?_
  cases e : v.ownBlock with
  | none => exact .inl rfl
  | some g => exact .inr (by intro h'; cases h')
theorem R_but {W W' : World} {base p : Nat} {v : Value} {xs : List Int} {cs : Array Value} {t : TypeId} (h : Kd.R (Kd.int .i64) 3 W base (fun _ => True) v xs) (hp : W.heap[p]? = some (.cells cs t (0, 0))) (ht : 3 ≠ t) (hB : But p W W') : Kd.R (Kd.int .i64) 3 W' base (fun _ => True) v xs := by
  have hg : W.grownBy W' (some p) := ⟨hB.os, hB.tape, hB.output, hB.size, fun k hk hn => hB.block k hk (fun h' => hn (by rw [h']))⟩
  refine Kd.R_of_own ?_ (fun _ _ => trivial)
  refine World.ownsRow.kept (Kd.own_of_R h) hg ?_
  exact .inr (own_ne (Kd.own_of_R h) hp ht).symm
def zero6 : Array Value := #[.int .i64 0, .slice none 0 0, .int .i64 0, .int .i64 0, .int .i64 0, .int .i64 0]
theorem blk_ne {W : World} {a b : Nat} {cs ds : Array Value} {t u : TypeId} {f g : Nat × Nat} (ha : W.heap[a]? = some (.cells cs t f)) (hb : W.heap[b]? = some (.cells ds u g)) (h : t ≠ u) : a ≠ b := by
  rintro rfl
  rw [ha] at hb
  injection hb with hb
  injection hb with _ hb
  exact h hb
theorem far6 {W : World} {g b : Nat} (hne : g ≠ b) (o : Nat) (x0 x1 x2 x3 x4 x5 v : Value) (h : W.cell? ⟨g, o, none⟩ = some v) : ((((((W.setCell ⟨b, 0, none⟩ x0).setCell ⟨b, 1, none⟩ x1).setCell ⟨b, 2, none⟩ x2).setCell ⟨b, 3, none⟩ x3).setCell ⟨b, 4, none⟩ x4).setCell ⟨b, 5, none⟩ x5).cell? ⟨g, o, none⟩ = some v := by
  unfold World.cell? at h ⊢
  rw [Below.heap_setCell _ ⟨b, 5, none⟩ _ g hne, Below.heap_setCell _ ⟨b, 4, none⟩ _ g hne, Below.heap_setCell _ ⟨b, 3, none⟩ _ g hne, Below.heap_setCell _ ⟨b, 2, none⟩ _ g hne, Below.heap_setCell _ ⟨b, 1, none⟩ _ g hne, Below.heap_setCell _ ⟨b, 0, none⟩ _ g hne]
  exact h
theorem set6 {W : World} {b : Nat} {y0 y1 y2 y3 y4 y5 : Value} {t : TypeId} (h : W.heap[b]? = some (.cells #[y0, y1, y2, y3, y4, y5] t (0, 0))) (x0 x1 x2 x3 x4 x5 : Value) : ((((((W.setCell ⟨b, 0, none⟩ x0).setCell ⟨b, 1, none⟩ x1).setCell ⟨b, 2, none⟩ x2).setCell ⟨b, 3, none⟩ x3).setCell ⟨b, 4, none⟩ x4).setCell ⟨b, 5, none⟩ x5).heap[b]? = some (.cells #[x0, x1, x2, x3, x4, x5] t (0, 0)) :=
  have h0 : (W.setCell ⟨b, 0, none⟩ x0).heap[b]? = some (.cells #[x0, y1, y2, y3, y4, y5] t (0, 0)) := blk_set h 0 x0
  have h1 : ((W.setCell ⟨b, 0, none⟩ x0).setCell ⟨b, 1, none⟩ x1).heap[b]? = some (.cells #[x0, x1, y2, y3, y4, y5] t (0, 0)) := blk_set h0 1 x1
  have h2 : (((W.setCell ⟨b, 0, none⟩ x0).setCell ⟨b, 1, none⟩ x1).setCell ⟨b, 2, none⟩ x2).heap[b]? = some (.cells #[x0, x1, x2, y3, y4, y5] t (0, 0)) := blk_set h1 2 x2
  have h3 : ((((W.setCell ⟨b, 0, none⟩ x0).setCell ⟨b, 1, none⟩ x1).setCell ⟨b, 2, none⟩ x2).setCell ⟨b, 3, none⟩ x3).heap[b]? = some (.cells #[x0, x1, x2, x3, y4, y5] t (0, 0)) := blk_set h2 3 x3
  have h4 : (((((W.setCell ⟨b, 0, none⟩ x0).setCell ⟨b, 1, none⟩ x1).setCell ⟨b, 2, none⟩ x2).setCell ⟨b, 3, none⟩ x3).setCell ⟨b, 4, none⟩ x4).heap[b]? = some (.cells #[x0, x1, x2, x3, x4, y5] t (0, 0)) := blk_set h3 4 x4
  blk_set h4 5 x5
theorem RW.but {W W' : World} {base p b : Nat} {xs : List Int} {a : Nat} {e : Int} {cs : Array Value} (h : RW W base p xs a e) (hb : W.heap[b]? = some (.cells cs 28 (0, 0))) (hB : But b W W') : RW W' base p xs a e := by
  obtain ⟨bv, hp, ho⟩ := h.out
  have hg : W.grownBy W' (some b) := ⟨hB.os, hB.tape, hB.output, hB.size, fun k hk hn => hB.block k hk (fun h' => hn (by rw [h']))⟩
  exact ⟨⟨bv, hB.blk hp (blk_ne hp hb (by decide)), own_kept ho hg (fun g hg' => by have := own_ne ho hb (by decide); rwa [hg'] at this)⟩, h.ge, h.le, h.few⟩
theorem But.six (b : Nat) (W : World) (x0 x1 x2 x3 x4 x5 : Value) : But b W ((((((W.setCell ⟨b, 0, none⟩ x0).setCell ⟨b, 1, none⟩ x1).setCell ⟨b, 2, none⟩ x2).setCell ⟨b, 3, none⟩ x3).setCell ⟨b, 4, none⟩ x4).setCell ⟨b, 5, none⟩ x5) := by
  refine But.setCell ?_ 5 x5
  refine But.setCell ?_ 4 x4
  refine But.setCell ?_ 3 x3
  refine But.setCell ?_ 2 x2
  refine But.setCell ?_ 1 x1
  refine But.setCell ?_ 0 x0
  exact But.refl b W
theorem But.set1 {p : Nat} {W w : World} (h : But p W w) {b : Nat} (hb : W.heap.size ≤ b) (o : Nat) (x : Value) : But p W (w.setCell ⟨b, o, none⟩ x) :=
  ⟨h.os, h.tape, h.output, by simp only [World.setCell, Array.size_modify]; exact h.size, fun k hk hn => by
    rw [Below.heap_setCell _ ⟨b, o, none⟩ _ k (by show k ≠ b; omega)]
    exact h.block k hk hn⟩
theorem But.set6 {p : Nat} {W w : World} (h : But p W w) {b : Nat} (hb : W.heap.size ≤ b) (x0 x1 x2 x3 x4 x5 : Value) : But p W ((((((w.setCell ⟨b, 0, none⟩ x0).setCell ⟨b, 1, none⟩ x1).setCell ⟨b, 2, none⟩ x2).setCell ⟨b, 3, none⟩ x3).setCell ⟨b, 4, none⟩ x4).setCell ⟨b, 5, none⟩ x5) := by
  refine But.set1 ?_ hb 5 x5
  refine But.set1 ?_ hb 4 x4
  refine But.set1 ?_ hb 3 x3
  refine But.set1 ?_ hb 2 x2
  refine But.set1 ?_ hb 1 x1
  refine But.set1 ?_ hb 0 x0
  exact h
/-- Where the state's region stands: the reader, the configuration's block, the new state's block if it is made. -/
structure St (w4 : World) (base p g5 : Nat) (xs : List Int) (gc : Array Value) (a : Nat) (e : Int) (wx : World) (ob : Option Nat) : Prop where
  rw_ : RW wx base p xs a e
  g : wx.heap[g5]? = some (.cells gc 24 (0, 0))
  but : But p w4 wx
  b : ∀ b, ob = some b → (b ≠ p ∧ w4.heap.size ≤ b) ∧ wx.heap[b]? = some (.cells zero6 28 (0, 0))
theorem St.below {w4 : World} {base p g5 : Nat} {xs : List Int} {gc : Array Value} {a : Nat} {e : Int} {wx w' : World} {ob : Option Nat} (h : St w4 base p g5 xs gc a e wx ob) (hB : Below wx.heap.size wx w') : St w4 base p g5 xs gc a e w' ob :=
  ⟨h.rw_.below hB, blk_below h.g hB, h.but.trans (But.of_below hB), fun b hb => ⟨(h.b b hb).1, blk_below (h.b b hb).2 hB⟩⟩
theorem St.al {w4 : World} {base p g5 : Nat} {xs : List Int} {gc : Array Value} {a : Nat} {e : Int} {wx : World} (h : St w4 base p g5 xs gc a e wx none) : St w4 base p g5 xs gc a e (wx.alloc (.cells zero6 28)) (some wx.heap.size) :=
  ⟨h.rw_.below (below_alloc (Below.refl _ _) _), blk_alloc h.g _, h.but.trans (But.of_below (below_alloc (Below.refl _ _) _)), fun b hb => by cases hb; exact ⟨⟨by have := h.rw_.lt; omega, h.but.size⟩, blk_new _ _⟩⟩
/-- What the region leaves. -/
def Fin (w4 : World) (base p : Nat) (xs : List Int) (cs : Array Value) (a : Nat) (e : Int) (v7 : Value) (wc : World) : Prop := ∃ b7, v7 = .pointer (some ⟨b7, 0, none⟩) ∧ wc.heap[b7]? = some (.cells cs 28 (0, 0)) ∧ RW wc base p xs a e ∧ But p w4 wc
theorem St.fin6 {w4 : World} {base p g5 : Nat} {xs : List Int} {gc : Array Value} {a : Nat} {e : Int} {wx : World} {b : Nat} (h : St w4 base p g5 xs gc a e wx (some b)) (x0 x1 x2 x3 x4 x5 : Value) : Fin w4 base p xs #[x0, x1, x2, x3, x4, x5] a e (.pointer (some ⟨b, 0, none⟩)) ((((((wx.setCell ⟨b, 0, none⟩ x0).setCell ⟨b, 1, none⟩ x1).setCell ⟨b, 2, none⟩ x2).setCell ⟨b, 3, none⟩ x3).setCell ⟨b, 4, none⟩ x4).setCell ⟨b, 5, none⟩ x5) := by
  obtain ⟨⟨h1, h2⟩, h3⟩ := h.b b rfl
  exact ⟨b, rfl, set6 h3 _ _ _ _ _ _, h.rw_.but h3 (But.six _ _ _ _ _ _ _ _), h.but.set6 h2 _ _ _ _ _ _⟩
theorem St.fin0 {w4 : World} {base p g5 : Nat} {xs : List Int} {gc : Array Value} {a : Nat} {e : Int} {wx : World} {ob : Option Nat} (h : St w4 base p g5 xs gc a e wx ob) (cs : Array Value) : Fin w4 base p xs cs a e (.pointer (some ⟨wx.heap.size, 0, none⟩)) (wx.alloc (.cells cs 28)) :=
  ⟨_, rfl, blk_new _ _, h.rw_.below (below_alloc (Below.refl _ _) _), h.but.trans (But.of_below (below_alloc (Below.refl _ _) _))⟩
theorem St.call {w4 : World} {base p g5 : Nat} {xs : List Int} {gc : Array Value} {a : Nat} {e : Int} {wx : World} {ob : Option Nat} (h : St w4 base p g5 xs gc a e wx ob) (hg : g5 ≠ p) (k : Nat) (most : Int) (hm0 : 0 ≤ most) (hm1 : most ≤ 1152921504606846976) (v : Int) (a' : Nat) (e' : Int) (hf : PInt k xs a e most = some (v, a', e')) :
    Calls Try.prog 34 #[.pointer (some ⟨p, 0, none⟩), .int .i64 most] wx fun r w' => r = .returned (.int .i64 v) ∧ St w4 base p g5 xs gc a' e' w' ob :=
  (int_calls h.rw_ k most hm0 hm1 v a' e' hf).mono fun r w' ⟨h1, h2, h3⟩ => ⟨h1, h2, h3.blk h.g hg, h.but.trans h3, fun b hb => ⟨(h.b b hb).1, h3.blk (h.b b hb).2 (h.b b hb).1.1⟩⟩
theorem R_setRow {W : World} {base p : Nat} {v : Value} {xs : List Int} {cs : Array Value} (h : Kd.R (Kd.int .i64) 3 W base (fun _ => True) v xs) (hp : W.heap[p]? = some (.cells cs 28 (0, 0))) (ds : Array Value) : Kd.R (Kd.int .i64) 3 (W.setRow p ds) base (fun _ => True) v xs :=
  R_but h hp (by decide) ⟨rfl, rfl, rfl, by simp [World.setRow], fun k _ hn => setRow_other W p k ds hn⟩
theorem end_calls' {W : World} {base p : Nat} {xs : List Int} {a : Nat} {e pe : Int} (h : RW W base p xs a e) (hp : PEnd xs a e = pe) :
    Calls Try.prog 35 #[.pointer (some ⟨p, 0, none⟩)] W fun r w' => r = .returned (.int .i64 pe) ∧ Drawn0 W w' := hp ▸ end_calls h
def DecPost (W : World) (ok : Prop) (ce : Int) (ch : List Int) (v1 v2 v3 v4 : Int) (r : Ending) (w' : World) : Prop :=
  (ok → ∃ v, r = .returned (.tuple #[.agg #[.int .i64 ce, v, .int .i64 v1, .int .i64 v2, .int .i64 v3, .int .i64 v4], .int .i64 0]) ∧ Kd.R (Kd.int .i64) 3 w' W.heap.size (fun _ => True) v ch) ∧ (¬ ok → r = .returned (.tuple #[.agg zero6, .int .i64 32])) ∧ Below W.heap.size W w'
set_option maxHeartbeats 4000000 in
set_option maxRecDepth 100000 in
theorem mdec_calls {W : World} {A : Option Addr} {c : Nat} {xs : List Int} (hC : Kd.C (Kd.int .u8) W A xs.length xs) (hl : xs.length ≤ 1099511627776) (k : Nat) (s : ByteArray) (a1 : Nat) (e1 : Int) (ce : Int) (ch : List Int) (ec : Int)
    (h1 : PText k xs 0 0 64 = some (s, a1, e1)) (hs : s.size ≤ 1099511627776) (h2 : config_Decode.f k (bytesOf s) = some (ce, ch, ec))
    (v1 : Int) (a2 : Nat) (e2 : Int) (h3 : PInt k xs a1 e1 1152921504606846976 = some (v1, a2, e2)) (v2 : Int) (a3 : Nat) (e3 : Int) (h4 : PInt k xs a2 e2 8 = some (v2, a3, e3)) (v3 : Int) (a4 : Nat) (e4 : Int) (h5 : PInt k xs a3 e3 1152921504606846976 = some (v3, a4, e4)) (v4 : Int) (a5 : Nat) (e5 : Int) (h6 : PInt k xs a4 e4 7 = some (v4, a5, e5))
    (pe : Int) (hpe : PEnd xs a5 e5 = pe) (mc : Int) (ok : Prop) (hok : ok ↔ (pe = 0 ∧ ec = 0 ∧ mc = 0)) (h7 : pe = 0 → ec = 0 → master_Check.f ce ch v1 v2 v3 v4 = some mc) :
    Calls Try.prog 15 #[.slice A xs.length c] W fun r w' => DecPost W ok ce ch v1 v2 v3 v4 r w' := by
  have HH := Aside0.mk (And.intro h1 (And.intro h2 (And.intro h3 (And.intro h4 (And.intro h5 h6)))))
  have HC := Aside0.mk (Kd.C_alloc hC (.cells zero6 28))
  have HZ := Aside0.mk (blk_new W (.cells zero6 28))
  have HB := Aside0.mk (below_alloc (Below.refl W.heap.size W) (.cells zero6 28))
  have HLS := Aside0.mk (show (bytesOf s).length = s.size from bytesOf_len s)
  have HSZ := Aside0.mk hs
  have hbl := bytesOf_len s
  have hcv := fun (w : World) => Lib.run_convert_string_bytes (P := Try.prog) w 9 30 5 s Try.underlying9 Try.underlying30 Try.underlying5
  have HIC : Aside0 ((Try.prog.info? 24).map (·.size) = some 2) := ⟨by kernel_rfl⟩
  have HIS : Aside0 ((Try.prog.info? 28).map (·.size) = some 6) := ⟨by kernel_rfl⟩
  have HUS := Aside0.mk Try.underlying28
  have H7 := Aside0.mk h7
  have HPE := Aside0.mk hpe
  have HOK := Aside0.mk hok
  clear h7 hpe hok
  clear hC h1 h2 h3 h4 h5 h6
  go_enter Try.func15, Try.ntmps15
  go_wp2_with (first
    | (go_at_call 31; refine (new_calls HC.out hl).mono ?_; rintro r w1 ⟨p, rfl, h, hB⟩; (have H1 := Aside0.mk (show RW w1 (W.heap.size + 1) p xs 0 0 from World.size_alloc W _ ▸ h)); (have HB1 := Aside0.mk (HB.out.trans (below_weak hB HB.out.size))); (have HZ1 := Aside0.mk (blk_below HZ.out hB)); clear h hB)
    | (go_at_call 33; refine (Text_calls H1.out k 64 (by decide) (by decide) s a1 e1 HH.out.1).mono ?_; rintro r w2 ⟨rfl, h, hB⟩; (have H2 := Aside0.mk h); (have HB2 := Aside0.mk hB); clear h hB)
    | (go_at_call 32; (have q_ := config_Decode.calls k (some ⟨w2.heap.size, 0, none⟩) (grownCap w2 s.size 0 5) (bytesOf s) ce ch ec (Lib.bytesWorld w2 5 s) (C_bytes w2 5 s (by have := HSZ.out; omega)) (by rw [HLS.out]; exact grownCap_ge _ _ _ _) HH.out.2.1); rw [HLS.out] at q_; refine q_.mono ?_; clear q_; rintro r w3 ⟨chv, rfl, hR, hB⟩; obtain ⟨A3, c3, rfl⟩ := Kd.R_slice hR; (have hB3 := (below_bytes w2 5 s).trans (below_weak hB (below_bytes w2 5 s).size)); (have H3 := Aside0.mk (H2.out.below hB3)); (have HB3 := Aside0.mk (HB2.out.trans (But.of_below hB3))); (have HR3 := Aside0.mk (Kd.R_lower hR (Nat.le_trans HB1.out.size (Nat.le_trans HB2.out.size (below_bytes w2 5 s).size)))); clear hR hB hB3)
    | ((with_reducible refine wpList_store_row rfl 24 (.tmp 5) (.tmp 15) rfl w3.heap.size #[.int .i64 ce, .slice A3 ch.length c3] ?d1 ?d2 24 #[.int .i64 0, .slice none 0 0] ?c1 ?c2 ?c3 ?c4 ?_); (case d1 => rfl); (case d2 => rfl); (case c1 => exact blk_new w3 _); (case c2 => exact HIC.out); (case c3 => rfl); (case c4 => kernel_rfl))
    | fail)
  have HG4 := Aside0.mk (setRow_heap (w3.alloc (.cells #[.int .i64 0, .slice none 0 0] 24)) w3.heap.size _ #[.int .i64 ce, .slice A3 ch.length c3] 24 (0, 0) (blk_new w3 _))
  have HB4 := Aside0.mk (below_setRow (below_alloc (Below.refl w3.heap.size w3) (.cells #[.int .i64 0, .slice none 0 0] 24)) (Nat.le_refl _) #[.int .i64 ce, .slice A3 ch.length c3])
  have H4 := Aside0.mk (H3.out.below HB4.out)
  have HR4 := Aside0.mk (R_below HR3.out HB4.out)
  have HP := Aside0.mk (show w3.heap.size ≠ p by have := H3.out.lt; omega)
  have HB4' := Aside0.mk (HB3.out.trans (But.of_below HB4.out))
  generalize (w3.alloc (.cells #[.int .i64 0, .slice none 0 0] 24)).setRow w3.heap.size #[.int .i64 ce, .slice A3 ch.length c3] = w4 at HG4 H4 HR4 HB4' ⊢
  clear HB4 HB3 HB2 H3 H2 HR3
  generalize w3.heap.size = g5 at HG4 HP ⊢
  have x0 : w4.cell? ⟨g5, 0, none⟩ = some (.int .i64 ce) := blk_cell HG4.out 0
  have x1 : w4.cell? ⟨g5, 1, none⟩ = some (.slice A3 ch.length c3) := blk_cell HG4.out 1
  go_cut [7] (fun v7 wc => Aside0 (Fin w4 (W.heap.size + 1) p xs #[.int .i64 ce, .slice A3 ch.length c3, .int .i64 v1, .int .i64 v2, .int .i64 v3, .int .i64 v4] a5 e5 v7 wc))
  case first =>
    have S0 := Aside0.mk (show St w4 (W.heap.size + 1) p g5 xs #[.int .i64 ce, .slice A3 ch.length c3] a1 e1 w4.drew none from St.below ⟨H4.out, HG4.out, But.refl _ _, fun b hb => by cases hb⟩ (Drawn0.below ⟨1, rfl⟩))
    have S0A := Aside0.mk (show St w4 (W.heap.size + 1) p g5 xs #[.int .i64 ce, .slice A3 ch.length c3] a1 e1 (w4.drew.alloc (.cells zero6 28)) (some w4.heap.size) from S0.out.al)
    go_region_held3 (fun w' => w'.cell? ⟨g5, 0, none⟩ = some (.int .i64 ce) ∧ w'.cell? ⟨g5, 1, none⟩ = some (.slice A3 ch.length c3)) (first | go_keep | exact ⟨far6 hne_ _ _ _ _ _ _ _ _ y0, far6 hne_ _ _ _ _ _ _ _ _ y1⟩) (first
      | ((have t_ := S3; clear t_); go_at_call 34; refine (St.call (by first | exact S3.out | exact S3.out.al) HP.out k 7 (by decide) (by decide) v4 a5 e5 HH.out.2.2.2.2.2).mono ?_; rintro r w8 ⟨rfl, h⟩; (have S4 := Aside0.mk h); (try (have hb_ := (h.b _ rfl).2; have z0 := blk_frozen hb_ 0; have z1 := blk_frozen hb_ 1; have z2 := blk_frozen hb_ 2; have z3 := blk_frozen hb_ 3; have z4 := blk_frozen hb_ 4; have z5 := blk_frozen hb_ 5; have zc0 := blk_cell hb_ 0; have zc1 := blk_cell hb_ 1; have zc2 := blk_cell hb_ 2; have zc3 := blk_cell hb_ 3; have zc4 := blk_cell hb_ 4; have zc5 := blk_cell hb_ 5; have hne_ := blk_ne h.g hb_ (by decide); clear hb_; simp only [zero6] at zc0 zc1 zc2 zc3 zc4 zc5)); (have y0 : w8.cell? ⟨g5, 0, none⟩ = some (.int .i64 ce) := blk_cell h.g 0); (have y1 : w8.cell? ⟨g5, 1, none⟩ = some (.slice A3 ch.length c3) := blk_cell h.g 1); clear h)
      | ((have t_ := S2; clear t_); go_at_call 34; refine (St.call (by first | exact S2.out | exact S2.out.al) HP.out k 1152921504606846976 (by decide) (by decide) v3 a4 e4 HH.out.2.2.2.2.1).mono ?_; rintro r w7 ⟨rfl, h⟩; (have S3 := Aside0.mk h); (have y0 : w7.cell? ⟨g5, 0, none⟩ = some (.int .i64 ce) := blk_cell h.g 0); (have y1 : w7.cell? ⟨g5, 1, none⟩ = some (.slice A3 ch.length c3) := blk_cell h.g 1); clear h)
      | ((have t_ := S1; clear t_); go_at_call 34; refine (St.call (by first | exact S1.out | exact S1.out.al) HP.out k 8 (by decide) (by decide) v2 a3 e3 HH.out.2.2.2.1).mono ?_; rintro r w6 ⟨rfl, h⟩; (have S2 := Aside0.mk h); (have y0 : w6.cell? ⟨g5, 0, none⟩ = some (.int .i64 ce) := blk_cell h.g 0); (have y1 : w6.cell? ⟨g5, 1, none⟩ = some (.slice A3 ch.length c3) := blk_cell h.g 1); clear h)
      | ((have t_ := S0; clear t_); go_at_call 34; refine (St.call (by first | exact S0.out | exact S0A.out) HP.out k 1152921504606846976 (by decide) (by decide) v1 a2 e2 HH.out.2.2.1).mono ?_; rintro r w5 ⟨rfl, h⟩; (have S1 := Aside0.mk h); (have y0 : w5.cell? ⟨g5, 0, none⟩ = some (.int .i64 ce) := blk_cell h.g 0); (have y1 : w5.cell? ⟨g5, 1, none⟩ = some (.slice A3 ch.length c3) := blk_cell h.g 1); clear h))
    · go_wp2
      go_meet
      case rel => exact ⟨S4.out.fin0 _⟩
    all_goals
      go_wp2
      go_meet
      case rel => exact ⟨S4.out.fin6 _ _ _ _ _ _⟩
  case rest =>
    obtain ⟨b7, rfl, HJ⟩ := hcut.out
    have HJ0 := Aside0.mk HJ
    clear HJ hcut
    have HZ5 := Aside0.mk (HJ0.out.2.2.blk (blk_below (HB4'.out.blk HZ1.out (by have := H1.out.ge; omega)) (Below.refl _ _)) (by have := H1.out.ge; omega))
    have HR5 := Aside0.mk (by obtain ⟨bv, hb, _⟩ := H4.out.out; exact R_but HR4.out hb (by decide) HJ0.out.2.2)
    have HB5 := Aside0.mk ((HB4'.out.trans HJ0.out.2.2).below HB1.out (by have := H1.out.ge; omega) H1.out.lt)
    clear HZ1 HZ HB HG4 x0 x1
    have HOKC := HOK
    by_cases he : pe = 0
    · by_cases hec : ec = 0
      · have HM := Aside0.mk (H7.out he hec)
        by_cases hm : mc = 0
        · subst he hec hm
          go_wp2_with (first | (go_at_call 35; refine (end_calls' HJ0.out.2.1 HPE.out).mono ?_; rintro r w9 ⟨rfl, ⟨q, hq⟩⟩; (have HX := Aside0.mk (show (wc.drewN q).heap[b7]? = _ from HJ0.out.1)); (have HZ9 := Aside0.mk (show (wc.drewN q).heap[W.heap.size]? = _ from HZ5.out)); (have HR9 := Aside0.mk (R_below HR5.out (Drawn0.below ⟨q, rfl⟩))); (have HB9 := Aside0.mk (HB5.out.trans (below_weak (Drawn0.below (w := wc) ⟨q, rfl⟩) HB5.out.size))); generalize wc.drewN q = w8 at hq HX HZ9 HR9 HB9; subst hq) | ((with_reducible refine wpList_load_row_g ?_ 28 (.tmp 7) rfl b7 ?_ 28 #[.int .i64 ce, .slice A3 ch.length c3, .int .i64 v1, .int .i64 v2, .int .i64 v3, .int .i64 v4] (0, 0) _ HX.out HUS.out ?_ ?_ ?_); (· rfl); (· rfl); (· rfl); (· exact HIS.out)) | ((with_reducible refine wpList_load_row rfl 28 (.tmp 7) rfl b7 ?_ 28 #[.int .i64 ce, .slice A3 ch.length c3, .int .i64 v1, .int .i64 v2, .int .i64 v3, .int .i64 v4] (0, 0) _ HX.out HUS.out ?_ ?_ ?_); (· rfl); (· rfl); (· exact HIS.out)) | (go_at_call 8; refine (master_Check.calls _ _ _ _ _ _ _ _ _ _ (Kd.R_reads' HR9.out).2.2 (Kd.R_reads' HR9.out).2.1 HM.out).mono ?_; rintro r w10 ⟨rfl, hB⟩; (have HX10 := Aside0.mk (blk_below HX.out hB)); (have HZ10 := Aside0.mk (blk_below HZ9.out hB)); (have HR10 := Aside0.mk (R_below HR9.out hB)); (have HB10 := Aside0.mk (HB9.out.trans (below_weak hB HB9.out.size))); clear HX HZ9 HR9 HB9; (have HX := HX10); (have HZ9 := HZ10); (have HR9 := HR10); (have HB9 := HB10); clear HX10 HZ10 HR10 HB10 hB) | ((with_reducible refine wpList_store_row rfl 28 (.tmp 2) (.tmp 40) rfl W.heap.size #[.int .i64 ce, .slice A3 ch.length c3, .int .i64 v1, .int .i64 v2, .int .i64 v3, .int .i64 v4] ?d1 ?d2 28 zero6 ?c1 ?c2 ?c3 ?c4 ?_); (case d1 => rfl); (case d2 => rfl); (case c1 => exact HZ9.out); (case c2 => exact HIS.out); (case c3 => rfl); (case c4 => kernel_rfl)) | fail)
          refine bodyPost_ret (results_cell_slot (P := Try.prog) rfl _ _ W.heap.size 28 #[.int .i64 ce, .slice A3 ch.length c3, .int .i64 v1, .int .i64 v2, .int .i64 v3, .int .i64 v4] (0, 0) _ rfl (setRow_heap _ _ _ _ 28 (0, 0) HZ9.out) HUS.out rfl HIS.out) rfl ?_
          exact ⟨fun _ => ⟨_, rfl, R_setRow HR9.out HZ9.out _⟩, fun h => absurd (HOK.out.2 ⟨by trivial, by trivial, by trivial⟩) h, below_setRow HB9.out (Nat.le_refl _) _⟩
        · have bm : (mc == 0) = false := by simpa using hm
          have bm' : (mc != 0) = true := by simpa using hm
          have HE := Aside0.mk hm
          subst he hec
          clear hm
          go_wp2_with (first | (go_at_call 35; refine (end_calls' HJ0.out.2.1 HPE.out).mono ?_; rintro r w9 ⟨rfl, ⟨q, hq⟩⟩; (have HX := Aside0.mk (show (wc.drewN q).heap[b7]? = _ from HJ0.out.1)); (have HZ9 := Aside0.mk (show (wc.drewN q).heap[W.heap.size]? = _ from HZ5.out)); (have HR9 := Aside0.mk (R_below HR5.out (Drawn0.below ⟨q, rfl⟩))); (have HB9 := Aside0.mk (HB5.out.trans (below_weak (Drawn0.below (w := wc) ⟨q, rfl⟩) HB5.out.size))); generalize wc.drewN q = w8 at hq HX HZ9 HR9 HB9; subst hq) | ((with_reducible refine wpList_load_row_g ?_ 28 (.tmp 7) rfl b7 ?_ 28 #[.int .i64 ce, .slice A3 ch.length c3, .int .i64 v1, .int .i64 v2, .int .i64 v3, .int .i64 v4] (0, 0) _ HX.out HUS.out ?_ ?_ ?_); (· rfl); (· rfl); (· rfl); (· exact HIS.out)) | ((with_reducible refine wpList_load_row rfl 28 (.tmp 7) rfl b7 ?_ 28 #[.int .i64 ce, .slice A3 ch.length c3, .int .i64 v1, .int .i64 v2, .int .i64 v3, .int .i64 v4] (0, 0) _ HX.out HUS.out ?_ ?_ ?_); (· rfl); (· rfl); (· exact HIS.out)) | (go_at_call 8; refine (master_Check.calls _ _ _ _ _ _ _ _ _ _ (Kd.R_reads' HR9.out).2.2 (Kd.R_reads' HR9.out).2.1 HM.out).mono ?_; rintro r w10 ⟨rfl, hB⟩; (have HX10 := Aside0.mk (blk_below HX.out hB)); (have HZ10 := Aside0.mk (blk_below HZ9.out hB)); (have HR10 := Aside0.mk (R_below HR9.out hB)); (have HB10 := Aside0.mk (HB9.out.trans (below_weak hB HB9.out.size))); clear HX HZ9 HR9 HB9; (have HX := HX10); (have HZ9 := HZ10); (have HR9 := HR10); (have HB9 := HB10); clear HX10 HZ10 HR10 HB10 hB) | ((with_reducible refine wpList_store_row rfl 28 (.tmp 2) (.tmp 39) rfl W.heap.size zero6 ?d1 ?d2 28 zero6 ?c1 ?c2 ?c3 ?c4 ?_); (case d1 => rfl); (case d2 => rfl); (case c1 => exact HZ9.out); (case c2 => exact HIS.out); (case c3 => rfl); (case c4 => kernel_rfl)) | fail)
          refine bodyPost_ret (results_cell_slot (P := Try.prog) rfl _ _ W.heap.size 28 zero6 (0, 0) _ rfl (setRow_heap _ _ _ _ 28 (0, 0) HZ9.out) HUS.out rfl HIS.out) rfl ?_
          exact ⟨fun h => absurd (HOK.out.1 h).2.2 HE.out, fun _ => rfl, below_setRow HB9.out (Nat.le_refl _) _⟩
      · have be : (ec == 0) = false := by simpa using hec
        have be' : (ec != 0) = true := by simpa using hec
        have HE := Aside0.mk hec
        subst he
        clear hec
        go_wp2_with (first | (go_at_call 35; refine (end_calls' HJ0.out.2.1 HPE.out).mono ?_; rintro r w9 ⟨rfl, ⟨q, hq⟩⟩; (have HX := Aside0.mk (show (wc.drewN q).heap[b7]? = _ from HJ0.out.1)); (have HZ9 := Aside0.mk (show (wc.drewN q).heap[W.heap.size]? = _ from HZ5.out)); (have HR9 := Aside0.mk (R_below HR5.out (Drawn0.below ⟨q, rfl⟩))); (have HB9 := Aside0.mk (HB5.out.trans (below_weak (Drawn0.below (w := wc) ⟨q, rfl⟩) HB5.out.size))); generalize wc.drewN q = w8 at hq HX HZ9 HR9 HB9; subst hq) | ((with_reducible refine wpList_load_row_g ?_ 28 (.tmp 7) rfl b7 ?_ 28 #[.int .i64 ce, .slice A3 ch.length c3, .int .i64 v1, .int .i64 v2, .int .i64 v3, .int .i64 v4] (0, 0) _ HX.out HUS.out ?_ ?_ ?_); (· rfl); (· rfl); (· rfl); (· exact HIS.out)) | ((with_reducible refine wpList_load_row rfl 28 (.tmp 7) rfl b7 ?_ 28 #[.int .i64 ce, .slice A3 ch.length c3, .int .i64 v1, .int .i64 v2, .int .i64 v3, .int .i64 v4] (0, 0) _ HX.out HUS.out ?_ ?_ ?_); (· rfl); (· rfl); (· exact HIS.out)) | (go_at_call 8; refine (master_Check.calls _ _ _ _ _ _ _ _ _ _ (Kd.R_reads' HR9.out).2.2 (Kd.R_reads' HR9.out).2.1 HM.out).mono ?_; rintro r w10 ⟨rfl, hB⟩; (have HX10 := Aside0.mk (blk_below HX.out hB)); (have HZ10 := Aside0.mk (blk_below HZ9.out hB)); (have HR10 := Aside0.mk (R_below HR9.out hB)); (have HB10 := Aside0.mk (HB9.out.trans (below_weak hB HB9.out.size))); clear HX HZ9 HR9 HB9; (have HX := HX10); (have HZ9 := HZ10); (have HR9 := HR10); (have HB9 := HB10); clear HX10 HZ10 HR10 HB10 hB) | ((with_reducible refine wpList_store_row rfl 28 (.tmp 2) (.tmp 39) rfl W.heap.size zero6 ?d1 ?d2 28 zero6 ?c1 ?c2 ?c3 ?c4 ?_); (case d1 => rfl); (case d2 => rfl); (case c1 => exact HZ9.out); (case c2 => exact HIS.out); (case c3 => rfl); (case c4 => kernel_rfl)) | fail)
        refine bodyPost_ret (results_cell_slot (P := Try.prog) rfl _ _ W.heap.size 28 zero6 (0, 0) _ rfl (setRow_heap _ _ _ _ 28 (0, 0) HZ9.out) HUS.out rfl HIS.out) rfl ?_
        exact ⟨fun h => absurd (HOK.out.1 h).2.1 HE.out, fun _ => rfl, below_setRow HB9.out (Nat.le_refl _) _⟩
    · have be : (pe == 0) = false := by simpa using he
      have be' : (pe != 0) = true := by simpa using he
      have HE := Aside0.mk he
      clear he
      go_wp2_with (first | (go_at_call 35; refine (end_calls' HJ0.out.2.1 HPE.out).mono ?_; rintro r w9 ⟨rfl, ⟨q, hq⟩⟩; (have HX := Aside0.mk (show (wc.drewN q).heap[b7]? = _ from HJ0.out.1)); (have HZ9 := Aside0.mk (show (wc.drewN q).heap[W.heap.size]? = _ from HZ5.out)); (have HR9 := Aside0.mk (R_below HR5.out (Drawn0.below ⟨q, rfl⟩))); (have HB9 := Aside0.mk (HB5.out.trans (below_weak (Drawn0.below (w := wc) ⟨q, rfl⟩) HB5.out.size))); generalize wc.drewN q = w8 at hq HX HZ9 HR9 HB9; subst hq) | ((with_reducible refine wpList_store_row rfl 28 (.tmp 2) (.tmp 39) rfl W.heap.size zero6 ?d1 ?d2 28 zero6 ?c1 ?c2 ?c3 ?c4 ?_); (case d1 => rfl); (case d2 => rfl); (case c1 => exact HZ9.out); (case c2 => exact HIS.out); (case c3 => rfl); (case c4 => kernel_rfl)) | fail)
      refine bodyPost_ret (results_cell_slot (P := Try.prog) rfl _ _ W.heap.size 28 zero6 (0, 0) _ rfl (setRow_heap _ _ _ _ 28 (0, 0) HZ9.out) HUS.out rfl HIS.out) rfl ?_
      exact ⟨fun h => absurd (HOK.out.1 h).1 HE.out, fun _ => rfl, below_setRow HB9.out (Nat.le_refl _) _⟩
end Rdr

def master_Decode.f (k : Nat) (l : List Int) : Option (Int × List Int × Int × Int × Int × Int × Int) :=
  if l.length ≤ 1048576 then (Rdr.PText k l 0 0 64).bind fun t => (if t.1.size ≤ 1099511627776 then config_Decode.f k (Rdr.bytesOf t.1) else none).bind fun c =>
    (Rdr.PInt k l t.2.1 t.2.2 1152921504606846976).bind fun i1 => (Rdr.PInt k l i1.2.1 i1.2.2 8).bind fun i2 => (Rdr.PInt k l i2.2.1 i2.2.2 1152921504606846976).bind fun i3 => (Rdr.PInt k l i3.2.1 i3.2.2 7).bind fun i4 =>
      if Rdr.PEnd l i4.2.1 i4.2.2 = 0 then (if c.2.2 = 0 then (master_Check.f c.1 c.2.1 i1.1 i2.1 i3.1 i4.1).bind fun m => if m = 0 then some (c.1, c.2.1, i1.1, i2.1, i3.1, i4.1, 0) else some (0, [], 0, 0, 0, 0, 32) else some (0, [], 0, 0, 0, 0, 32)) else some (0, [], 0, 0, 0, 0, 32)
  else none
theorem Rdr.pint_mono (k : Nat) (xs : List Int) (a : Nat) (m : Int) : LeO (Rdr.pint k xs a m) (Rdr.pint (k + 1) xs a m) := LeO.bind (leb_Decode.mono _ _) fun _ => LeO.refl _
theorem Rdr.PInt_mono (k : Nat) (xs : List Int) (a : Nat) (e m : Int) : LeO (Rdr.PInt k xs a e m) (Rdr.PInt (k + 1) xs a e m) := LeO.ite (Rdr.pint_mono _ _ _ _) (LeO.refl _)
theorem Rdr.PText_mono (k : Nat) (xs : List Int) (a : Nat) (e m : Int) : LeO (Rdr.PText k xs a e m) (Rdr.PText (k + 1) xs a e m) := LeO.ite (LeO.bind (Rdr.pint_mono _ _ _ _) fun _ => LeO.refl _) (LeO.refl _)
theorem master_Decode.mono : ∀ a0 k, LeO (master_Decode.f k a0) (master_Decode.f (k + 1) a0) := fun a0 k =>
  LeO.ite (LeO.bind (Rdr.PText_mono _ _ _ _ _) fun _ => LeO.bind (LeO.ite (config_Decode.mono _ _) (LeO.refl _)) fun _ => LeO.bind (Rdr.PInt_mono _ _ _ _ _) fun _ => LeO.bind (Rdr.PInt_mono _ _ _ _ _) fun _ => LeO.bind (Rdr.PInt_mono _ _ _ _ _) fun _ => LeO.bind (Rdr.PInt_mono _ _ _ _ _) fun _ => LeO.refl _) (LeO.refl _)
theorem master_Decode.calls (k : Nat) (A0 : Option Addr) (c0 : Nat) (l0 : List Int) (r1 : Int) (r2 : List Int) (r3 r4 r5 r6 r7 : Int) (w : World) (hr0 : Kd.C (Kd.int .u8) w A0 l0.length l0) (hc0 : l0.length ≤ c0) (h : master_Decode.f k l0 = some (r1, r2, r3, r4, r5, r6, r7)) :
    Calls Try.prog 15 #[.slice A0 l0.length c0] w fun e w' => ∃ v1_ : Value, e = .returned (.tuple #[.agg #[.int .i64 r1, v1_, .int .i64 r3, .int .i64 r4, .int .i64 r5, .int .i64 r6], .int .i64 r7]) ∧ Kd.R (Kd.int .i64) 3 w' w.heap.size (fun _ => True) v1_ r2 ∧ Below w.heap.size w w' := by
  unfold master_Decode.f at h
  split at h
  case isFalse => cases h
  rename_i hl
  obtain ⟨⟨s, a1, e1⟩, h1, h⟩ := Option.bind_eq_some_iff.1 h
  obtain ⟨⟨ce, ch, ec⟩, h2, h⟩ := Option.bind_eq_some_iff.1 h
  simp only at h2 h
  split at h2
  case isFalse => cases h2
  rename_i hs
  obtain ⟨⟨v1, a2, e2⟩, h3, h⟩ := Option.bind_eq_some_iff.1 h
  obtain ⟨⟨v2, a3, e3⟩, h4, h⟩ := Option.bind_eq_some_iff.1 h
  obtain ⟨⟨v3, a4, e4⟩, h5, h⟩ := Option.bind_eq_some_iff.1 h
  obtain ⟨⟨v4, a5, e5⟩, h6, h⟩ := Option.bind_eq_some_iff.1 h
  simp only at h3 h4 h5 h6 h
  have bad : ∀ (mc : Int) (hm : Rdr.PEnd l0 a5 e5 = 0 → ec = 0 → master_Check.f ce ch v1 v2 v3 v4 = some mc), ¬ (Rdr.PEnd l0 a5 e5 = 0 ∧ ec = 0 ∧ mc = 0) → (some (0, [], 0, 0, 0, 0, 32) : Option (Int × List Int × Int × Int × Int × Int × Int)) = some (r1, r2, r3, r4, r5, r6, r7) →
      Calls Try.prog 15 #[.slice A0 l0.length c0] w fun e w' => ∃ v1_ : Value, e = .returned (.tuple #[.agg #[.int .i64 r1, v1_, .int .i64 r3, .int .i64 r4, .int .i64 r5, .int .i64 r6], .int .i64 r7]) ∧ Kd.R (Kd.int .i64) 3 w' w.heap.size (fun _ => True) v1_ r2 ∧ Below w.heap.size w w' := by
    intro mc hm hno he
    simp only [Option.some.injEq, Prod.mk.injEq] at he
    obtain ⟨rfl, rfl, rfl, rfl, rfl, rfl, rfl⟩ := he
    refine (Rdr.mdec_calls hr0 (by omega) k s a1 e1 ce ch ec h1 hs h2 v1 a2 e2 h3 v2 a3 e3 h4 v3 a4 e4 h5 v4 a5 e5 h6 _ rfl mc _ Iff.rfl hm).mono ?_
    rintro e w' ⟨_, hb, hB⟩
    exact ⟨_, hb hno, Kd.R_nil _ _ _ _ _, hB⟩
  split at h
  · rename_i hp
    split at h
    · rename_i hec
      obtain ⟨mc, hm, h⟩ := Option.bind_eq_some_iff.1 h
      try simp only at h
      split at h
      · rename_i hz
        simp only [Option.some.injEq, Prod.mk.injEq] at h
        obtain ⟨rfl, rfl, rfl, rfl, rfl, rfl, rfl⟩ := h
        refine (Rdr.mdec_calls hr0 (by omega) k s a1 e1 ce ch ec h1 hs h2 v1 a2 e2 h3 v2 a3 e3 h4 v3 a4 e4 h5 v4 a5 e5 h6 _ rfl mc _ Iff.rfl (fun _ _ => hm)).mono ?_
        rintro e w' ⟨hg, _, hB⟩
        obtain ⟨v, he, hR⟩ := hg ⟨hp, hec, hz⟩
        exact ⟨v, he, hR, hB⟩
      · rename_i hz
        exact bad mc (fun _ _ => hm) (fun h => hz h.2.2) h
    · rename_i hec
      exact bad 0 (fun _ h => absurd h hec) (fun h => hec h.2.1) h
  · rename_i hp
    exact bad 0 (fun h _ => absurd h hp) (fun h => hp h.1) h

end Go.Proofs.Ytkkmceejfmjidaa.G
