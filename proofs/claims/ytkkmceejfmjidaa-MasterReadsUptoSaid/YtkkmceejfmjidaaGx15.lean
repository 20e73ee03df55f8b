-- Written for this claim by a program of this session (wip/xprint.py), by means of the kit's print. Not trusted: Lean checks it.
import Derived.Test.YtkkmceejfmjidaaGx0
import Derived.Test.YtkkmceejfmjidaaGx8
import Derived.Test.YtkkmceejfmjidaaGx11
import Derived.Test.YtkkmceejfmjidaaGx12
import Derived.Test.YtkkmceejfmjidaaGx14
namespace Go.Proofs.Ytkkmceejfmjidaa.G
open Go.RowKit Go.Proofs.YtkkmceejfmjidaaW.PrintWords Go.Proofs.YtkkmceejfmjidaaW.PrintLast Go.Proofs.YtkkmceejfmjidaaW.PrintMore
attribute [local go_sem] max2_int min2_int max_two min_two max_three min_three max_four min_four   -- for this text's walks alone
set_option linter.unusedVariables false
set_option linter.unusedSimpArgs false

/-! ### hawserref21_Decode: function 16 -/
namespace Rdr
open Go.Proofs.Ytkkmceejfmjidaa.Blocks
/-- Bytes that are read stay so where one block changes that holds no bytes. -/
theorem C_but {W W' : World} {A : Option Addr} {p : Nat} {xs : List Int} (h : Kd.C (Kd.int .u8) W A xs.length xs) (hp : ∀ (o : Nat) (x : Int), W.cell? ⟨p, o, none⟩ ≠ some (.int .u8 x)) (hB : But p W W') : Kd.C (Kd.int .u8) W' A xs.length xs := by
  refine ⟨h.1, h.2.1, fun pos => ?_⟩
  obtain ⟨ad, e, hc⟩ := h.2.2 pos
  refine ⟨ad, e, fun j q hj => ?_⟩
  obtain ⟨c, hl, hK, hcc⟩ := hc j q hj
  refine ⟨c, hl, hK, fun i u hu => ?_⟩
  have h1 := hcc i u hu
  have hK : c = [.int .u8 q] := hK
  subst hK
  have hi : i = 0 := by
    rcases i with _ | i
    · rfl
    · simp at hu
  subst hi
  have hu : Value.int .u8 q = u := by simpa using hu
  subst hu
  generalize ad.add (j * (Kd.int .u8).sz + 0) = x at h1 ⊢
  have hlt := World.block_lt_of_cell? W x h1
  have hne : x.block ≠ p := by
    intro he
    obtain ⟨b, o, s⟩ := x
    simp only at he
    subst he
    cases s with
    | none => exact hp o q h1
    | some s =>
      unfold World.cell? at h1
      split at h1
      · simp at h1
      · cases h1
  unfold World.cell? at h1 ⊢
  rw [hB.block x.block hlt hne]
  exact h1
/-- A reader of the document's: block p holds its bytes, its place, its error. -/
structure RR (W : World) (p m : Nat) (xs : List Int) (a e : Int) : Prop where
  out : ∃ A c, W.heap[p]? = some (.cells #[.slice A xs.length c, .int .i64 a, .int .i64 e] 80 (0, 0)) ∧ Kd.C (Kd.int .u8) W A xs.length xs ∧ xs.length ≤ c ∧ ∀ ad, A = some ad → 0 < xs.length → ad.block < m
theorem RR.lt {W : World} {p m : Nat} {xs : List Int} {a e : Int} (h : RR W p m xs a e) : p < W.heap.size := by
  obtain ⟨A, c, hb, _⟩ := h.out
  exact blk_lt hb
theorem RR.below {W W' : World} {p m : Nat} {xs : List Int} {a e : Int} (h : RR W p m xs a e) (hB : Below W.heap.size W W') : RR W' p m xs a e := by
  obtain ⟨A, c, hb, hC, hc, hm⟩ := h.out
  exact ⟨A, c, blk_below hb hB, Kd.C_below hC hB, hc, hm⟩
theorem RR.more {W : World} {p m m' : Nat} {xs : List Int} {a e : Int} (h : RR W p m xs a e) (hm : m ≤ m') : RR W p m' xs a e := by
  obtain ⟨A, c, hb, hC, hc, h1⟩ := h.out
  exact ⟨A, c, hb, hC, hc, fun ad he hp => Nat.lt_of_lt_of_le (h1 ad he hp) hm⟩
theorem RR.drewN {W : World} {p m : Nat} {xs : List Int} {a e : Int} (h : RR W p m xs a e) (n : Nat) : RR (W.drewN n) p m xs a e := h.below (Drawn0.below ⟨n, rfl⟩)
theorem RR.nobyte {W : World} {p m : Nat} {xs : List Int} {a e : Int} (h : RR W p m xs a e) (o : Nat) (x : Int) : W.cell? ⟨p, o, none⟩ ≠ some (.int .u8 x) := by
  obtain ⟨A, c, hb, _⟩ := h.out
  rw [blk_cell hb o]
  match o with
  | 0 => simp
  | 1 => simp
  | 2 => simp
  | o + 3 => simp
theorem RR.other {W W' : World} {p q m : Nat} {xs : List Int} {a e : Int} (h : RR W p m xs a e) (hn : p ≠ q) (hq : ∀ (o : Nat) (x : Int), W.cell? ⟨q, o, none⟩ ≠ some (.int .u8 x)) (hB : But q W W') : RR W' p m xs a e := by
  obtain ⟨A, c, hb, hC, hc, hm⟩ := h.out
  exact ⟨A, c, hB.blk hb hn, C_but hC hq hB, hc, hm⟩
theorem RR.grown {W W' : World} {p m : Nat} {xs : List Int} {a e : Int} {row : Option Nat} (h : RR W p m xs a e) (hg : W.grownBy W' row) (hr : ∀ g, row = some g → m ≤ g ∧ p ≠ g) : RR W' p m xs a e := by
  obtain ⟨A, c, hb, hC, hc, hm⟩ := h.out
  refine ⟨A, c, blk_grown hb hg (fun he => (hr p he.symm).2 rfl), ⟨hC.1, hC.2.1, fun pos => ?_⟩, hc, hm⟩
  obtain ⟨ad, e, hcc⟩ := hC.2.2 pos
  refine ⟨ad, e, fun j q hj => ?_⟩
  obtain ⟨z, hl, hK, hz⟩ := hcc j q hj
  refine ⟨z, hl, hK, fun i u hu => ?_⟩
  have h1 := hz i u hu
  have hlt := World.block_lt_of_cell? W _ h1
  have hbl : (ad.add (j * (Kd.int .u8).sz + i)).block = ad.block := by unfold Addr.add; split <;> rfl
  have hne : ∀ g, row = some g → (ad.add (j * (Kd.int .u8).sz + i)).block ≠ g := fun g hg' => by have := (hr g hg').1; have := hm ad e pos; omega
  unfold World.cell? at h1 ⊢
  rw [hg.block _ hlt (fun he => hne _ he.symm rfl)]
  exact h1
theorem RR.setAt {W : World} {p m : Nat} {xs : List Int} {a e : Int} (h : RR W p m xs a e) (a' : Int) : RR (W.setCell ⟨p, 1, none⟩ (.int .i64 a')) p m xs a' e := by
  have hn := h.nobyte
  obtain ⟨A, c, hb, hC, hc, hm⟩ := h.out
  exact ⟨A, c, blk_set hb 1 _, C_but hC hn ((But.refl p W).setCell 1 _), hc, hm⟩
theorem RR.setErr {W : World} {p m : Nat} {xs : List Int} {a e : Int} (h : RR W p m xs a e) (e' : Int) : RR (W.setCell ⟨p, 2, none⟩ (.int .i64 e')) p m xs a e' := by
  have hn := h.nobyte
  obtain ⟨A, c, hb, hC, hc, hm⟩ := h.out
  exact ⟨A, c, blk_set hb 2 _, C_but hC hn ((But.refl p W).setCell 2 _), hc, hm⟩
set_option maxRecDepth 100000 in
theorem rfail_calls {W : World} {p m : Nat} {xs : List Int} {a : Int} (h : RR W p m xs a 0) (x : Int) :
    Calls Try.prog 65 #[.pointer (some ⟨p, 0, none⟩), .int .i64 x] W fun r w' => r = .returned (.tuple #[]) ∧ RR w' p m xs a x ∧ But p W w' := by
  have H := Aside0.mk (h.setErr x)
  obtain ⟨A, c, hb, _⟩ := h.out
  have hc2 : W.cell? ⟨p, 2, none⟩ = some (.int .i64 0) := blk_cell hb 2
  have hf2 : W.frozen? ⟨p, 2, none⟩ = false := blk_frozen hb 2
  clear hb h
  go_enter Try.func65, Try.ntmps65
  go_wp2
  go_end0
  exact ⟨rfl, H.out, (But.refl _ _).setCell _ _⟩
set_option maxRecDepth 100000 in
theorem done_calls {W : World} {p m : Nat} {xs : List Int} {a : Int} (h : RR W p m xs a 0) (a' e' : Int) :
    Calls Try.prog 56 #[.pointer (some ⟨p, 0, none⟩), .int .i64 a', .int .i64 e'] W fun r w' => r = .returned (.bool (e' == 0)) ∧ RR w' p m xs (if e' = 0 then a' else a) e' ∧ But p W w' := by
  have H := Aside0.mk h
  obtain ⟨A, c, hb, _⟩ := h.out
  have hc1 : W.cell? ⟨p, 1, none⟩ = some (.int .i64 a) := blk_cell hb 1
  have hf1 : W.frozen? ⟨p, 1, none⟩ = false := blk_frozen hb 1
  clear hb h
  by_cases he : e' = 0
  · subst he
    rw [if_pos rfl]
    go_enter Try.func56, Try.ntmps56
    go_wp2
    go_ret
    exact ⟨rfl, H.out.setAt a', (But.refl _ _).setCell _ _⟩
  · rw [if_neg he]
    have be : (e' == 0) = false := by simpa using he
    have be' : (e' != 0) = true := by simpa using he
    rw [be]
    clear he
    go_enter Try.func56, Try.ntmps56
    go_wp2_with (first | (go_at_call 65; refine (rfail_calls H.out _).mono ?_; rintro r w1 ⟨rfl, h, hB⟩; (have H1 := Aside0.mk h); (have HB1 := Aside0.mk hB); clear h hB) | fail)
    go_ret
    exact ⟨rfl, H1.out, HB1.out⟩
/-- A number taken up from the document's reader, in any state. -/
def RInt (k : Nat) (xs : List Int) (a e most : Int) : Option (Int × Int × Int) := if e = 0 then (hawserref03_upto.f k xs a most).bind fun t => if t.2.2 = 0 then some t else some (0, a, t.2.2) else some (0, a, e)
def RText (k : Nat) (xs : List Int) (a e most : Int) : Option (ByteArray × Int × Int) := if e = 0 then (hawserref03_text.f k xs a most).bind fun t => if t.2.2 = 0 then some t else some (⟨#[]⟩, a, t.2.2) else some (⟨#[]⟩, a, e)
set_option maxRecDepth 100000 in
theorem rint_calls {W : World} {p m : Nat} {xs : List Int} {a e : Int} (h : RR W p m xs a e) (k : Nat) (most v a' e' : Int) (hf : RInt k xs a e most = some (v, a', e')) :
    Calls Try.prog 37 #[.pointer (some ⟨p, 0, none⟩), .int .i64 most] W fun r w' => r = .returned (.int .i64 v) ∧ RR w' p m xs a' e' ∧ But p W w' := by
  have H := Aside0.mk h
  obtain ⟨A, c, hb, hC, hc, _⟩ := h.out
  have hc0 : W.cell? ⟨p, 0, none⟩ = some (.slice A xs.length c) := blk_cell hb 0
  have hc1 : W.cell? ⟨p, 1, none⟩ = some (.int .i64 a) := blk_cell hb 1
  have hc2 : W.cell? ⟨p, 2, none⟩ = some (.int .i64 e) := blk_cell hb 2
  have HC := Aside0.mk hC
  have HL := Aside0.mk hc
  clear hb h hC hc
  unfold RInt at hf
  by_cases he : e = 0
  · subst he
    rw [if_pos rfl] at hf
    obtain ⟨⟨v0, a0, e0⟩, hu, hf⟩ := Option.bind_eq_some_iff.1 hf
    simp only at hf
    have HU := Aside0.mk (fun q => hawserref03_upto.calls k A c xs a most v0 a0 e0 (W.drewN q) (Kd.C_drewN HC.out q) HL.out hu |>.mono fun _ _ h => And.intro h.1 h.2.out)
    clear hu
    by_cases h0 : e0 = 0
    · subst h0
      rw [if_pos rfl] at hf
      simp only [Option.some.injEq, Prod.mk.injEq] at hf
      obtain ⟨rfl, rfl, rfl⟩ := hf
      go_enter Try.func37, Try.ntmps37
      go_wp2
      go_quiet ((go_at_call 57; exact Calls.quiet_of (HU.out _)))
      go_wp2_with (first | (go_at_call 56; refine (done_calls (H.out.drewN _) _ _).mono ?_; rintro r w1 ⟨rfl, h, hB⟩; rw [if_pos rfl] at h; (have H1 := Aside0.mk h); (have HB1 := Aside0.mk hB); clear h hB) | fail)
      go_ret
      exact ⟨rfl, H1.out, (But.of_below (Drawn0.below ⟨_, rfl⟩)).trans HB1.out⟩
    · rw [if_neg h0] at hf
      simp only [Option.some.injEq, Prod.mk.injEq] at hf
      obtain ⟨rfl, rfl, rfl⟩ := hf
      have be : (e0 == 0) = false := by simpa using h0
      have HE := Aside0.mk h0
      clear h0
      go_enter Try.func37, Try.ntmps37
      go_wp2
      go_quiet ((go_at_call 57; exact Calls.quiet_of (HU.out _)))
      go_wp2_with (first | (go_at_call 56; refine (done_calls (H.out.drewN _) _ _).mono ?_; rintro r w1 ⟨rfl, h, hB⟩; rw [if_neg HE.out] at h; (have H1 := Aside0.mk h); (have HB1 := Aside0.mk hB); clear h hB) | fail)
      go_ret
      exact ⟨rfl, H1.out, (But.of_below (Drawn0.below ⟨_, rfl⟩)).trans HB1.out⟩
  · rw [if_neg he] at hf
    simp only [Option.some.injEq, Prod.mk.injEq] at hf
    obtain ⟨rfl, rfl, rfl⟩ := hf
    have be : (e == 0) = false := by simpa using he
    have be' : (e != 0) = true := by simpa using he
    clear he
    go_enter Try.func37, Try.ntmps37
    go_wp2
    go_ret
    exact ⟨rfl, H.out, But.refl _ _⟩
set_option maxRecDepth 100000 in
theorem rText_calls {W : World} {p m : Nat} {xs : List Int} {a e : Int} (h : RR W p m xs a e) (k : Nat) (most : Int) (v : ByteArray) (a' e' : Int) (hf : RText k xs a e most = some (v, a', e')) :
    Calls Try.prog 36 #[.pointer (some ⟨p, 0, none⟩), .int .i64 most] W fun r w' => r = .returned (.string v) ∧ RR w' p m xs a' e' ∧ But p W w' := by
  have H := Aside0.mk h
  obtain ⟨A, c, hb, hC, hc, _⟩ := h.out
  have hc0 : W.cell? ⟨p, 0, none⟩ = some (.slice A xs.length c) := blk_cell hb 0
  have hc1 : W.cell? ⟨p, 1, none⟩ = some (.int .i64 a) := blk_cell hb 1
  have hc2 : W.cell? ⟨p, 2, none⟩ = some (.int .i64 e) := blk_cell hb 2
  have HC := Aside0.mk hC
  have HL := Aside0.mk hc
  clear hb h hC hc
  unfold RText at hf
  by_cases he : e = 0
  · subst he
    rw [if_pos rfl] at hf
    obtain ⟨⟨v0, a0, e0⟩, hu, hf⟩ := Option.bind_eq_some_iff.1 hf
    simp only at hf
    have HU := Aside0.mk (fun q => hawserref03_text.calls k A c xs a most v0 a0 e0 (W.drewN q) (Kd.C_drewN HC.out q) HL.out hu |>.mono fun _ _ h => And.intro h.1 h.2.out)
    clear hu
    by_cases h0 : e0 = 0
    · subst h0
      rw [if_pos rfl] at hf
      simp only [Option.some.injEq, Prod.mk.injEq] at hf
      obtain ⟨rfl, rfl, rfl⟩ := hf
      go_enter Try.func36, Try.ntmps36
      go_wp2
      go_quiet ((go_at_call 55; exact Calls.quiet_of (HU.out _)))
      go_wp2_with (first | (go_at_call 56; refine (done_calls (H.out.drewN _) _ _).mono ?_; rintro r w1 ⟨rfl, h, hB⟩; rw [if_pos rfl] at h; (have H1 := Aside0.mk h); (have HB1 := Aside0.mk hB); clear h hB) | fail)
      go_ret
      exact ⟨rfl, H1.out, (But.of_below (Drawn0.below ⟨_, rfl⟩)).trans HB1.out⟩
    · rw [if_neg h0] at hf
      simp only [Option.some.injEq, Prod.mk.injEq] at hf
      obtain ⟨rfl, rfl, rfl⟩ := hf
      have be : (e0 == 0) = false := by simpa using h0
      have HE := Aside0.mk h0
      clear h0
      go_enter Try.func36, Try.ntmps36
      go_wp2
      go_quiet ((go_at_call 55; exact Calls.quiet_of (HU.out _)))
      go_wp2_with (first | (go_at_call 56; refine (done_calls (H.out.drewN _) _ _).mono ?_; rintro r w1 ⟨rfl, h, hB⟩; rw [if_neg HE.out] at h; (have H1 := Aside0.mk h); (have HB1 := Aside0.mk hB); clear h hB) | fail)
      go_ret
      exact ⟨rfl, H1.out, (But.of_below (Drawn0.below ⟨_, rfl⟩)).trans HB1.out⟩
  · rw [if_neg he] at hf
    simp only [Option.some.injEq, Prod.mk.injEq] at hf
    obtain ⟨rfl, rfl, rfl⟩ := hf
    have be : (e == 0) = false := by simpa using he
    have be' : (e != 0) = true := by simpa using he
    clear he
    go_enter Try.func36, Try.ntmps36
    go_wp2
    go_ret
    exact ⟨rfl, H.out, But.refl _ _⟩
def REnd (xs : List Int) (a e : Int) : Int := if e = 0 then (if a < (xs.length : Int) then 34 else 0) else e
set_option maxRecDepth 100000 in
theorem rend_calls {W : World} {p m : Nat} {xs : List Int} {a e : Int} (h : RR W p m xs a e) (x : Int) (hx : REnd xs a e = x) :
    Calls Try.prog 38 #[.pointer (some ⟨p, 0, none⟩)] W fun r w' => r = .returned (.int .i64 x) ∧ Drawn0 W w' := by
  obtain ⟨A, c, hb, hC, hc, _⟩ := h.out
  have hc0 : W.cell? ⟨p, 0, none⟩ = some (.slice A xs.length c) := blk_cell hb 0
  have hc1 : W.cell? ⟨p, 1, none⟩ = some (.int .i64 a) := blk_cell hb 1
  have hc2 : W.cell? ⟨p, 2, none⟩ = some (.int .i64 e) := blk_cell hb 2
  clear hb h hC hc
  unfold REnd at hx
  by_cases he : e = 0
  · subst he
    rw [if_pos rfl] at hx
    by_cases hlt : a < (xs.length : Int)
    · rw [if_pos hlt] at hx
      subst hx
      have b1 : decide (a < (xs.length : Int)) = true := decide_eq_true hlt
      go_enter Try.func38, Try.ntmps38
      go_wp2
      go_quiet (fail)
      go_wp2
      go_ret
      exact ⟨rfl, ⟨_, rfl⟩⟩
    · rw [if_neg hlt] at hx
      subst hx
      have b1 : decide (a < (xs.length : Int)) = false := decide_eq_false hlt
      have hz : ∀ q, (W.drewN q).cell? ⟨p, 2, none⟩ = some (.int .i64 0) := fun q => hc2
      go_enter Try.func38, Try.ntmps38
      go_wp2
      go_quiet (fail)
      go_wp2
      go_ret
      exact ⟨rfl, ⟨_, rfl⟩⟩
  · rw [if_neg he] at hx
    subst hx
    have be : (e == 0) = false := by simpa using he
    have hz : ∀ q, (W.drewN q).cell? ⟨p, 2, none⟩ = some (.int .i64 e) := fun q => hc2
    go_enter Try.func38, Try.ntmps38
    go_wp2
    go_quiet (fail)
    go_wp2
    go_ret
    exact ⟨rfl, ⟨_, rfl⟩⟩
end Rdr
namespace Rdr
open Go.Proofs.Ytkkmceejfmjidaa.Blocks
theorem info_int : (Try.prog.info? 3).map (fun i => (i.zero, i.size, i.bytes)) = some (some (.int .i64 0), 1, 8) := by kernel_rfl
/-- An append of one number upon a row of one's own. -/
theorem run_app1 {W : World} {base : Nat} {u : Value} {xs : List Int} (ho : W.ownsRow base 3 1 u xs.length (nums .i64 xs)) (v : Int) (t ty : TypeId) (ht : Try.prog.underlying t = some (.slice 3)) (hl : xs.length ≤ 1048576) (hb : base ≤ W.heap.size) :
    ∃ v' w', (Builtin.append_ #[t, t] ty #[u, .slice (some ⟨W.heap.size, 0, none⟩) 1 1]).run Try.prog (W.alloc (.cells #[.int .i64 v] 3)) = .ok v' w' ∧ w'.ownsRow base 3 1 v' (xs ++ [v]).length (nums .i64 (xs ++ [v])) ∧ (W.alloc (.cells #[.int .i64 v] 3)).grownBy w' u.ownBlock ∧ (v'.ownBlock = u.ownBlock ∨ v'.ownBlock = some (W.heap.size + 1)) := by
  obtain ⟨i0, hi, hzz⟩ := Option.map_eq_some_iff.1 info_int
  simp only [Prod.mk.injEq] at hzz
  obtain ⟨hz0, hz1, hz2⟩ := hzz
  obtain ⟨v', w', hrun, hown, hg, _, hat⟩ := run_append_own_at (P := Try.prog) (W.alloc (.cells #[.int .i64 v] 3)) base t ty 3 i0 (.int .i64 0) 1 8 ht hi hz0 hz1 hz2 rfl (by decide) u xs.length (nums .i64 xs) (ho.alloc _) ⟨W.heap.size, 0, none⟩ 1 1 (nums .i64 [v]) rfl (fun j x hj => by
    rcases j with _ | j
    · have hj : Value.int .i64 v = x := by simpa [nums] using hj
      subst hj
      exact blk_cell (blk_new W _) 0
    · simp [nums] at hj) (nums_one _ _) (by simp only [maxLen]; omega) (by omega) (by rw [World.size_alloc]; omega)
  refine ⟨v', w', hrun, ?_, hg, by rwa [World.size_alloc] at hat⟩
  rw [List.length_append, nums_app]
  exact hown
theorem oper_app {o : Oper} {a : Act} {w w' : World} {K : Act → World → Prop} {Q : Exit → Act → World → Prop} {t : TypeId} {s z : Operand} {u v v' : Value} (hop : o.op = .call { callee := .builtin .append, args := #[s, z], argTypes := #[t, t] })
    (hs : a.eval s = u) (hx : a.eval z = v) (hrun : (Builtin.append_ #[t, t] o.type #[u, v]).run Try.prog w = .ok v' w') (hK : K (a.put o.dst v') w') : Oper.wp Try.prog o a w K Q := by
  unfold Oper.wp
  simp [execOp, hop, resolve, invoke, builtin, hs, hx, hrun, Result.andThen]
  exact hK
theorem step_app {ops : Array Oper} {o : Oper} {a : Act} {w w' : World} {K : Act → World → Prop} {Q : Exit → Act → World → Prop} {E : Prop} {t : TypeId} {u v v' : Value} (hgd : o.guard = none) (s z : Operand) (hop : o.op = .call { callee := .builtin .append, args := #[s, z], argTypes := #[t, t] })
    (hs : a.eval s = u) (hx : a.eval z = v) (hrun : (Builtin.append_ #[t, t] o.type #[u, v]).run Try.prog w = .ok v' w') (hK : K (a.put o.dst v') w') : if Region.wanted o (yielded ops a.tmps) = true then Oper.wp Try.prog o a w K Q else E := by
  have hw : Region.wanted o (yielded ops a.tmps) = true := by simp [Region.wanted, hgd]
  rw [if_pos hw]
  exact oper_app hop hs hx hrun hK
theorem if_then {c A B : Prop} [Decidable c] (hc : c) (h : A) : if c then A else B := by rw [if_pos hc]; exact h
theorem own_sl7 {W : World} {base : Nat} {u : Value} {n : Nat} {z : List Value} (h : W.ownsRow base 3 1 u n z) : ∃ A c, u = .slice A n c := by
  rcases h.2 with ⟨h, h0⟩ | ⟨g, cap, cur, h, _⟩
  · exact ⟨none, 0, by rw [h, h0]⟩
  · exact ⟨_, _, h⟩
/-- Where the document's Decode stands: both readers, the result's block, the state's block. -/
structure Sx (w0 W : World) (p4 p5 g6 : Nat) (xs ys : List Int) (a e b f ep : Int) (ch : List Int) (v1 v2 v3 v4 : Int) : Prop where
  rr : RR W p4 g6 xs a e
  rc : RR W p5 g6 ys b f
  z : W.heap[w0.heap.size]? = some (.cells zero6 27 (0, 0))
  st : ∃ A c, W.heap[g6]? = some (.cells #[.int .i64 ep, .slice A ch.length c, .int .i64 v1, .int .i64 v2, .int .i64 v3, .int .i64 v4] 27 (0, 0)) ∧ Kd.R (Kd.int .i64) 3 W g6 (fun _ => True) (.slice A ch.length c) ch
  n1 : w0.heap.size < p4 ∧ p4 < p5 ∧ p5 < g6
  bel : Below w0.heap.size w0 W
theorem nobyte_st {W : World} {g : Nat} {ep v1 v2 v3 v4 : Int} {A : Option Addr} {n c : Nat} {t : TypeId} (h : W.heap[g]? = some (.cells #[.int .i64 ep, .slice A n c, .int .i64 v1, .int .i64 v2, .int .i64 v3, .int .i64 v4] t (0, 0))) (o : Nat) (x : Int) : W.cell? ⟨g, o, none⟩ ≠ some (.int .u8 x) := by
  rw [blk_cell h o]
  match o with
  | 0 => simp
  | 1 => simp
  | 2 => simp
  | 3 => simp
  | 4 => simp
  | 5 => simp
  | o + 6 => simp
theorem Sx.below {w0 W W' : World} {p4 p5 g6 : Nat} {xs ys : List Int} {a e b f ep : Int} {ch : List Int} {v1 v2 v3 v4 : Int} (h : Sx w0 W p4 p5 g6 xs ys a e b f ep ch v1 v2 v3 v4) (hB : Below W.heap.size W W') : Sx w0 W' p4 p5 g6 xs ys a e b f ep ch v1 v2 v3 v4 := by
  obtain ⟨A, c, hs, hr⟩ := h.st
  exact ⟨h.rr.below hB, h.rc.below hB, blk_below h.z hB, ⟨A, c, blk_below hs hB, R_below hr hB⟩, h.n1, h.bel.trans (below_weak hB h.bel.size)⟩
theorem Sx.call4 {w0 W W' : World} {p4 p5 g6 : Nat} {xs ys : List Int} {a e b f ep : Int} {ch : List Int} {v1 v2 v3 v4 : Int} (h : Sx w0 W p4 p5 g6 xs ys a e b f ep ch v1 v2 v3 v4) {a' e' : Int} (hr : RR W' p4 g6 xs a' e') (hB : But p4 W W') : Sx w0 W' p4 p5 g6 xs ys a' e' b f ep ch v1 v2 v3 v4 := by
  obtain ⟨A, c, hs, hR⟩ := h.st
  have hn := h.n1
  obtain ⟨A4, c4, hb4, _⟩ := h.rr.out
  exact ⟨hr, h.rc.other (by omega) h.rr.nobyte hB, hB.blk h.z (by omega), ⟨A, c, hB.blk hs (by omega), R_but hR hb4 (by decide) hB⟩, hn, hB.below h.bel (by omega) h.rr.lt⟩
theorem Sx.call5 {w0 W W' : World} {p4 p5 g6 : Nat} {xs ys : List Int} {a e b f ep : Int} {ch : List Int} {v1 v2 v3 v4 : Int} (h : Sx w0 W p4 p5 g6 xs ys a e b f ep ch v1 v2 v3 v4) {b' f' : Int} (hr : RR W' p5 g6 ys b' f') (hB : But p5 W W') : Sx w0 W' p4 p5 g6 xs ys a e b' f' ep ch v1 v2 v3 v4 := by
  obtain ⟨A, c, hs, hR⟩ := h.st
  have hn := h.n1
  obtain ⟨A4, c4, hb4, _⟩ := h.rc.out
  exact ⟨h.rr.other (by omega) h.rc.nobyte hB, hr, hB.blk h.z (by omega), ⟨A, c, hB.blk hs (by omega), R_but hR hb4 (by decide) hB⟩, hn, hB.below h.bel (by omega) h.rc.lt⟩
theorem Sx.set {w0 W : World} {p4 p5 g6 : Nat} {xs ys : List Int} {a e b f ep : Int} {ch : List Int} {v1 v2 v3 v4 : Int} (h : Sx w0 W p4 p5 g6 xs ys a e b f ep ch v1 v2 v3 v4) (o : Nat) (x : Value) (ep' v1' v2' v3' v4' : Int) (hx : ∀ A c, (#[.int .i64 ep, .slice A ch.length c, .int .i64 v1, .int .i64 v2, .int .i64 v3, .int .i64 v4] : Array Value).setIfInBounds o x = #[.int .i64 ep', .slice A ch.length c, .int .i64 v1', .int .i64 v2', .int .i64 v3', .int .i64 v4']) : Sx w0 (W.setCell ⟨g6, o, none⟩ x) p4 p5 g6 xs ys a e b f ep' ch v1' v2' v3' v4' := by
  obtain ⟨A, c, hs, hR⟩ := h.st
  have hn := h.n1
  have hB : But g6 W (W.setCell ⟨g6, o, none⟩ x) := (But.refl _ _).setCell _ _
  have h1 := blk_set hs o x
  rw [hx A c] at h1
  exact ⟨h.rr.other (by omega) (nobyte_st hs) hB, h.rc.other (by omega) (nobyte_st hs) hB, hB.blk h.z (by omega), ⟨A, c, h1, R_but hR hs (by decide) hB⟩, hn, hB.below h.bel (by omega) (blk_lt hs)⟩
theorem Sx.app {w0 W w7 : World} {p4 p5 g6 : Nat} {xs ys : List Int} {a e b f ep : Int} {ch : List Int} {v1 v2 v3 v4 : Int} (h : Sx w0 W p4 p5 g6 xs ys a e b f ep ch v1 v2 v3 v4) {A A7 : Option Addr} {c c7 : Nat} {o : Obj} {v : Int}
    (hs : W.heap[g6]? = some (.cells #[.int .i64 ep, .slice A ch.length c, .int .i64 v1, .int .i64 v2, .int .i64 v3, .int .i64 v4] 27 (0, 0))) (hR : Kd.R (Kd.int .i64) 3 W g6 (fun _ => True) (.slice A ch.length c) ch)
    (hown : w7.ownsRow g6 3 1 (.slice A7 (ch ++ [v]).length c7) (ch ++ [v]).length (nums .i64 (ch ++ [v]))) (hg : (W.alloc o).grownBy w7 (Value.slice A ch.length c).ownBlock) :
    Sx w0 (w7.setCell ⟨g6, 1, none⟩ (.slice A7 (ch ++ [v]).length c7)) p4 p5 g6 xs ys a e b f ep (ch ++ [v]) v1 v2 v3 v4 := by
  have h0 := h.below (below_alloc (Below.refl _ _) o)
  have hn := h.n1
  have hlt := blk_lt hs
  have hb6 : w7.heap[g6]? = _ := blk_grown (blk_alloc hs o) hg (own_ne (Kd.own_of_R hR) hs (by decide))
  have hrow : ∀ g, (Value.slice A ch.length c).ownBlock = some g → g6 ≤ g := fun g hg' => (World.ownsRow.lt (Kd.own_of_R hR) g hg').1
  have hrow' : ∀ g, (Value.slice A ch.length c).ownBlock = some g → g6 ≠ g := fun g hg' he => own_ne (Kd.own_of_R hR) hs (by decide) (by rw [hg', he])
  have hz : w7.heap[w0.heap.size]? = _ := blk_grown h0.z hg (fun he => by have := hrow _ he.symm; omega)
  have hB7 : But g6 w7 (w7.setCell ⟨g6, 1, none⟩ (.slice A7 (ch ++ [v]).length c7)) := (But.refl _ _).setCell _ _
  have hbel : Below w0.heap.size w0 w7 := h0.bel.grown hg h0.bel.size (fun k hk => by have := hrow k hk; omega)
  refine ⟨RR.other (h0.rr.grown hg (fun g hg' => ⟨hrow g hg', by have := hrow g hg'; omega⟩)) (by omega) (nobyte_st hb6) hB7, RR.other (h0.rc.grown hg (fun g hg' => ⟨hrow g hg', by have := hrow g hg'; omega⟩)) (by omega) (nobyte_st hb6) hB7, hB7.blk hz (by omega), ⟨A7, c7, blk_set hb6 1 _, ?_⟩, hn, hB7.below hbel (by omega) (blk_lt hb6)⟩
  exact R_but (Kd.R_of_own hown (fun _ _ => trivial)) hb6 (by decide) hB7
/-- So many numbers of the chain, one behind the other. -/
def rchain (k : Nat) (ys : List Int) : Nat → Int → Int → List Int → Option (Int × Int × List Int)
  | 0, b, f, ch => some (b, f, ch)
  | m + 1, b, f, ch => (RInt k ys b f 8).bind fun t => rchain k ys m t.2.1 t.2.2 (ch ++ [t.1])
set_option maxHeartbeats 4000000 in
set_option maxRecDepth 100000 in
theorem rdec_calls {W : World} {A : Option Addr} {c : Nat} {xs : List Int} (hC : Kd.C (Kd.int .u8) W A xs.length xs) (hc : xs.length ≤ c) (hl : xs.length ≤ 1099511627776) (k : Nat) (s : ByteArray) (a1 e1 ep b1 f1 : Int) (n : Nat) (b2 f2 : Int) (b3 f3 : Int) (ch : List Int)
    (h1 : RText k xs 0 0 xs.length = some (s, a1, e1)) (hs : s.size ≤ 1099511627776) (h2 : RInt k (bytesOf s) 0 0 1099511627776 = some (ep, b1, f1)) (h3 : RInt k (bytesOf s) b1 f1 8 = some ((n : Int), b2, f2)) (hn : n ≤ 1000) (h4 : rchain k (bytesOf s) n b2 f2 [] = some (b3, f3, ch))
    (v1 a2 e2 v2 a3 e3 v3 a4 e4 v4 a5 e5 : Int) (g1 : RInt k xs a1 e1 1152921504606846976 = some (v1, a2, e2)) (g2 : RInt k xs a2 e2 1152921504606846976 = some (v2, a3, e3)) (g3 : RInt k xs a3 e3 1152921504606846976 = some (v3, a4, e4)) (g4 : RInt k xs a4 e4 1152921504606846976 = some (v4, a5, e5))
    (n1 n2 mc : Int) (m1 : REnd xs a5 e5 = n1) (m2 : REnd (bytesOf s) b3 f3 = n2) (m3 : n1 = 0 → n2 = 0 → hawserref21_Check.f k ep ch v1 v2 v3 v4 = some mc) (en : List Int) (er : Int) (m4 : n1 = 0 → n2 = 0 → mc = 0 → hawserref21_Encode.f ep ch v1 v2 v3 v4 = some (en, er)) (ok : Prop) (hok : ok ↔ (n1 = 0 ∧ n2 = 0 ∧ mc = 0 ∧ (strOfNums en).toList = (strOfNums xs).toList)) :
    Calls Try.prog 16 #[.slice A xs.length c] W fun r w' => DecPost W ok ep ch v1 v2 v3 v4 r w' := by
  have HOK := Aside0.mk hok
  clear hok
  have HH := Aside0.mk (And.intro h1 (And.intro h2 (And.intro h3 h4)))
  have HT := Aside0.mk (And.intro g1 (And.intro g2 (And.intro g3 (And.intro g4 (And.intro m1 (And.intro m2 (And.intro m3 m4)))))))
  clear g1 g2 g3 g4 m1 m2 m3 m4
  have HC := Aside0.mk hC
  have HCC := Aside0.mk hc
  have HLS := Aside0.mk (show (bytesOf s).length = s.size from bytesOf_len s)
  have HSZ := Aside0.mk hs
  have hcv := fun (w : World) => Lib.run_convert_string_bytes (P := Try.prog) w 9 30 5 s Try.underlying9 Try.underlying30 Try.underlying5
  clear hC h1 h2 h3 h4 hc
  go_enter Try.func16, Try.ntmps16
  go_upto_region 2 with fail
  have H1 : Aside0 (RR ((W.alloc (.cells zero6 27)).alloc (.cells #[.slice A xs.length c, .int .i64 0, .int .i64 0] 80)) (W.heap.size + 1) (W.heap.size) xs 0 0) := ⟨⟨A, c, by have := blk_new (W.alloc (.cells zero6 27)) (.cells #[.slice A xs.length c, .int .i64 0, .int .i64 0] 80); rwa [World.size_alloc] at this, Kd.C_alloc (Kd.C_alloc HC.out _) _, HCC.out, fun ad he hp => by
    obtain ⟨ad', he', hcc⟩ := cells_of_C HC.out hp
    rw [he] at he'
    obtain rfl := Option.some.inj he'
    obtain ⟨x, hx⟩ : ∃ x, (nums .u8 xs)[0]? = some x := ⟨_, List.getElem?_eq_getElem (by rw [nums_length]; exact hp)⟩
    have := World.block_lt_of_cell? W _ (hcc 0 x hx)
    have hbl : (ad.add 0).block = ad.block := by unfold Addr.add; split <;> rfl
    rwa [hbl] at this⟩⟩
  have HZ1 : Aside0 (((W.alloc (.cells zero6 27)).alloc (.cells #[.slice A xs.length c, .int .i64 0, .int .i64 0] 80)).heap[W.heap.size]? = some (.cells zero6 27 (0, 0))) := ⟨blk_alloc (blk_new W _) _⟩
  have HB1 : Aside0 (Below W.heap.size W ((W.alloc (.cells zero6 27)).alloc (.cells #[.slice A xs.length c, .int .i64 0, .int .i64 0] 80))) := ⟨below_alloc (below_alloc (Below.refl _ _) _) _⟩
  have HQ1 : Aside0 (((W.alloc (.cells zero6 27)).alloc (.cells #[.slice A xs.length c, .int .i64 0, .int .i64 0] 80)).heap.size = W.heap.size + 2) := ⟨by rw [World.size_alloc, World.size_alloc]⟩
  unfold zero6 at H1 HZ1 HB1 HQ1
  generalize ((W.alloc _).alloc _ : World) = w1 at H1 HZ1 HB1 HQ1 ⊢
  go_upto_region 4 with (first
    | (go_at_call 36; refine (rText_calls H1.out k _ s a1 e1 HH.out.1).mono ?_; rintro r w2 ⟨rfl, h, hB⟩; (have H2 := Aside0.mk h); (have HB2 := Aside0.mk hB); clear h hB)
    | fail)
  have HS3 : Aside0 (Sx W (((Lib.bytesWorld w2 5 s).alloc (.cells #[.slice (some ⟨w2.heap.size, 0, none⟩) s.size (grownCap w2 s.size 0 5), .int .i64 0, .int .i64 0] 80)).alloc (.cells zero6 27)) (W.heap.size + 1) (Lib.bytesWorld w2 5 s).heap.size ((Lib.bytesWorld w2 5 s).heap.size + 1) xs (bytesOf s) a1 e1 0 0 0 [] 0 0 0 0) := ⟨by
    have hb0 := below_bytes w2 5 s
    have hb1 := below_alloc (Below.refl (Lib.bytesWorld w2 5 s).heap.size (Lib.bytesWorld w2 5 s)) (.cells #[.slice (some ⟨w2.heap.size, 0, none⟩) s.size (grownCap w2 s.size 0 5), .int .i64 0, .int .i64 0] 80)
    have hb2 := below_alloc (Below.refl ((Lib.bytesWorld w2 5 s).alloc (.cells #[.slice (some ⟨w2.heap.size, 0, none⟩) s.size (grownCap w2 s.size 0 5), .int .i64 0, .int .i64 0] 80)).heap.size _) (.cells zero6 27)
    have hsz : w2.heap.size ≤ (Lib.bytesWorld w2 5 s).heap.size := hb0.size
    have hlt := H2.out.lt
    have hB2 : Below W.heap.size W w2 := HB2.out.below HB1.out (by omega) H1.out.lt
    refine ⟨(((H2.out.below hb0).below hb1).below hb2).more (by omega), ?_, blk_below (blk_below (blk_below (HB2.out.blk HZ1.out (by omega)) hb0) hb1) hb2, ⟨none, 0, ?_, Kd.R_nil _ _ _ _ _⟩, ⟨by omega, by omega, by omega⟩, ?_⟩
    · have hC := C_bytes w2 5 s (by have := HSZ.out; omega)
      refine ⟨some ⟨w2.heap.size, 0, none⟩, grownCap w2 s.size 0 5, ?_, Kd.C_below (Kd.C_below hC hb1) hb2, by rw [HLS.out]; exact grownCap_ge _ _ _ _, fun ad he hp => by cases he; rw [Lib.bytesWorld_size]; show w2.heap.size < _; omega⟩
      rw [HLS.out]
      exact blk_alloc (blk_new _ _) _
    · have := blk_new ((Lib.bytesWorld w2 5 s).alloc (.cells #[.slice (some ⟨w2.heap.size, 0, none⟩) s.size (grownCap w2 s.size 0 5), .int .i64 0, .int .i64 0] 80)) (.cells zero6 27)
      rwa [World.size_alloc] at this
    · have h1 : Below W.heap.size W (Lib.bytesWorld w2 5 s) := hB2.trans (below_weak hb0 hB2.size)
      exact (h1.alloc h1.size _).alloc (by rw [World.size_alloc]; have := h1.size; omega) _⟩
  unfold zero6 at HS3
  generalize (Lib.bytesWorld w2 5 s).heap.size = p5 at HS3 ⊢
  generalize ((Lib.bytesWorld w2 5 s).alloc _).alloc _ = w3 at HS3 ⊢
  clear H1 HZ1 HB1 HQ1 H2 HB2 hcv
  go_wp2_with (first
    | ((have t_ := HS4; clear t_); go_at_call 37; refine (rint_calls HS4.out.rc k 8 n b2 f2 HH.out.2.2.1).mono ?_; rintro r w5 ⟨rfl, h, hB⟩; (have HS5 := Aside0.mk (HS4.out.call5 h hB)); clear h hB)
    | (go_at_call 37; refine (rint_calls HS3.out.rc k 1099511627776 ep b1 f1 HH.out.2.1).mono ?_; rintro r w4 ⟨rfl, h, hB⟩; (have h0 := HS3.out.call5 h hB); (have HS4 := Aside0.mk (h0.set 0 (.int .i64 ep) ep 0 0 0 0 (fun _ _ => rfl))); obtain ⟨_, _, hst, _⟩ := h0.st; (have f0 := blk_frozen hst 0); (have c0 := blk_cell hst 0); clear h hB h0 hst)
    | fail)
  clear f0 c0 HS4 HS3
  have HU22 := Aside0.mk Try.underlying22
  go_loopw [8] (fun v wr => ∃ j : Nat, v = .int .i64 j ∧ j ≤ n ∧ Aside0 (∃ b f ch', Sx W wr (W.heap.size + 1) p5 (p5 + 1) xs (bytesOf s) a1 e1 b f ep ch' 0 0 0 0 ∧ rchain k (bytesOf s) (n - j) b f ch' = some (b3, f3, ch) ∧ ch'.length = j)) (fun v _ => n - (intOf v).toNat)
  case atStart => exact ⟨0, rfl, by omega, ⟨_, _, _, HS5.out, HH.out.2.2.2, rfl⟩⟩
  case round =>
    obtain ⟨j, rfl, hj, HP⟩ := hrel
    clear HS5
    by_cases hlt : j < n
    · obtain ⟨b, f, ch', hS, hr, hle⟩ := HP.out
      rw [show n - j = (n - j - 1) + 1 by omega, rchain] at hr
      obtain ⟨⟨v, b', f'⟩, hv, hr⟩ := Option.bind_eq_some_iff.1 hr
      simp only at hr
      have HV := Aside0.mk hv
      have HR := Aside0.mk hr
      have HS := Aside0.mk hS
      have HL := Aside0.mk hle
      clear HP hv hr hS hle
      have hlt' : (j : Int) < (n : Int) := by omega
      have hj0 : (0 : Int) ≤ (j : Int) := by omega
      have hn' : (n : Int) ≤ 1000 := by omega
      go_upto_region 9 with fail
      obtain ⟨Ac, cc, hst, hRc⟩ := HS.out.st
      have HST := Aside0.mk hst
      have HRC := Aside0.mk hRc
      clear hst hRc
      have x1 : wr.cell? ⟨p5 + 1, 1, none⟩ = some (.slice Ac ch'.length cc) := blk_cell HST.out 1
      go_region_law (first
        | (go_simp; go_at_call 37; refine (rint_calls (HS.out.rc.drewN 1) k 8 v b' f' HV.out).mono ?_; rintro r w6 ⟨rfl, h, hB⟩; (have HS6 := Aside0.mk ((HS.out.below (Drawn0.below ⟨1, rfl⟩)).call5 h hB)); (have HST6 := Aside0.mk (hB.blk (blk_drew HST.out) (by omega))); (have HRC6 := Aside0.mk (by obtain ⟨_, _, hb5, _⟩ := (HS.out.rc.drewN 1).out; exact R_but (R_below HRC.out (Drawn0.below ⟨1, rfl⟩)) hb5 (by decide) hB)); (have x6 : w6.cell? ⟨p5 + 1, 1, none⟩ = some (.slice Ac ch'.length cc) := blk_cell HST6.out 1); (have x7 : (w6.alloc (.cells #[.int .i64 v] 3)).cell? ⟨p5 + 1, 1, none⟩ = some (.slice Ac ch'.length cc) := blk_cell (blk_alloc HST6.out _) 1); (obtain ⟨v7, w7, hrun, hown, hg, hat⟩ := run_app1 (Kd.own_of_R HRC6.out) v 22 22 HU22.out (by have := HL.out; omega) (Nat.le_of_lt (blk_lt HST6.out))); (have HOWN := Aside0.mk hown); (have HG := Aside0.mk hg); (have HRUN := Aside0.mk hrun); clear hown hg hat hrun h hB)
        | ((with_reducible refine step_app (t := 22) rfl (.tmp 34) (.tmp 37) rfl ?s_ ?x_ HRUN.out ?_); (case s_ => go_simp); (case x_ => go_simp); (obtain ⟨A7, c7, hv7⟩ := own_sl7 HOWN.out); subst hv7; (have HST7 := Aside0.mk (blk_grown (blk_alloc HST6.out _) HG.out (own_ne (Kd.own_of_R HRC6.out) HST6.out (by decide)))); (have HS8 := Aside0.mk (HS6.out.app HST6.out HRC6.out HOWN.out HG.out)); (have k1 := blk_cell HST7.out 1); (have k2 := blk_frozen HST7.out 1))
        | fail)
      all_goals
        have e9 : (ch' ++ [v]).length = ch'.length + 1 := by simp
        rw [e9] at HS8
        clear k1 k2 x1 x6 x7
        try simp only [e9]
        generalize w7.setCell _ _ = w9 at HS8 ⊢
        go_wp2
        go_roundw
        case rel => exact ⟨j + 1, by push_cast; rfl, by omega, ⟨b', f', ch' ++ [v], HS8.out, by rw [show n - (j + 1) = n - j - 1 by omega]; exact HR.out, by rw [e9, HL.out]⟩⟩
        case measure => simp [intOf]; omega
    · have hj2 : j = n := by omega
      obtain hj2 := hj2.symm
      subst hj2
      obtain ⟨b, f, ch', hS, hr, hl9⟩ := HP.out
      clear hl9
      rw [Nat.sub_self, rchain] at hr
      simp only [Option.some.injEq, Prod.mk.injEq] at hr
      obtain ⟨hb_, hf_, hc_⟩ := hr
      obtain hb_ := hb_.symm
      obtain hf_ := hf_.symm
      obtain hc_ := hc_.symm
      subst hb_ hf_ hc_
      have T0 := Aside0.mk hS
      have hlt' : ¬ (n : Int) < (n : Int) := by omega
      clear HP hS hlt
      go_upto_region 14 with (first
        | ((have t_ := T3; clear t_); (go_at_call 37; refine (rint_calls T3.out.rr k 1152921504606846976 v4 a5 e5 HT.out.2.2.2.1).mono ?_; rintro r x4 ⟨rfl, h, hB⟩; (have h0 := T3.out.call4 h hB); (have T4 := Aside0.mk (h0.set 5 (.int .i64 v4) ep v1 v2 v3 v4 (fun _ _ => rfl))); obtain ⟨_, _, hst, _⟩ := h0.st; (have f5 := blk_frozen hst 5); (have c5 := blk_cell hst 5); clear h hB h0 hst))
        | ((have t_ := T2; clear t_); (go_at_call 37; refine (rint_calls T2.out.rr k 1152921504606846976 v3 a4 e4 HT.out.2.2.1).mono ?_; rintro r x3 ⟨rfl, h, hB⟩; (have h0 := T2.out.call4 h hB); (have T3 := Aside0.mk (h0.set 4 (.int .i64 v3) ep v1 v2 v3 0 (fun _ _ => rfl))); obtain ⟨_, _, hst, _⟩ := h0.st; (have f4 := blk_frozen hst 4); (have c4 := blk_cell hst 4); clear h hB h0 hst))
        | ((have t_ := T1; clear t_); (go_at_call 37; refine (rint_calls T1.out.rr k 1152921504606846976 v2 a3 e3 HT.out.2.1).mono ?_; rintro r x2 ⟨rfl, h, hB⟩; (have h0 := T1.out.call4 h hB); (have T2 := Aside0.mk (h0.set 3 (.int .i64 v2) ep v1 v2 0 0 (fun _ _ => rfl))); obtain ⟨_, _, hst, _⟩ := h0.st; (have f3 := blk_frozen hst 3); (have c3 := blk_cell hst 3); clear h hB h0 hst))
        | ((have t_ := T0; clear t_); (go_at_call 37; refine (rint_calls T0.out.rr k 1152921504606846976 v1 a2 e2 HT.out.1).mono ?_; rintro r x1 ⟨rfl, h, hB⟩; (have h0 := T0.out.call4 h hB); (have T1 := Aside0.mk (h0.set 2 (.int .i64 v1) ep v1 0 0 0 (fun _ _ => rfl))); obtain ⟨_, _, hst, _⟩ := h0.st; (have f2 := blk_frozen hst 2); (have c2 := blk_cell hst 2); clear h hB h0 hst))
        | fail)
      clear f2 f3 f4 f5 c2 c3 c4 c5 T0 T1 T2 T3
      have T5 := T4
      clear T4
      generalize World.setCell _ _ _ = y0 at T5 ⊢
      have HCx := Aside0.mk (Kd.C_below HC.out T5.out.bel)
      obtain ⟨AS, cS, hst, hRS⟩ := T5.out.st
      have HX := Aside0.mk hst
      have HRS := Aside0.mk hRS
      have HIS : Aside0 ((Try.prog.info? 27).map (·.size) = some 6) := ⟨by kernel_rfl⟩
      have HUS := Aside0.mk Try.underlying27
      have tok1 : True := trivial
      clear hst hRS
      by_cases hn1 : n1 = 0
      · by_cases hn2 : n2 = 0
        · have HM := Aside0.mk (HT.out.2.2.2.2.2.2.1 hn1 hn2)
          by_cases hmc : mc = 0
          · have HN := Aside0.mk (HT.out.2.2.2.2.2.2.2 hn1 hn2 hmc)
            by_cases hq : (strOfNums en).toList = (strOfNums xs).toList
            · have HOK1 := Aside0.mk (HOK.out.2 ⟨hn1, hn2, hmc, hq⟩)
              subst hn1 hn2 hmc
              have bq : ((strOfNums en).toList == (strOfNums xs).toList) = true := by simpa using hq
              have bq' : ((strOfNums en).toList != (strOfNums xs).toList) = false := by simpa using hq
              clear hq
              go_wp2_with (first | ((have t_ := tok1; clear t_); go_at_call 38; (with_reducible refine (rend_calls T5.out.rr _ HT.out.2.2.2.2.1).mono ?_); rintro r y1 ⟨rfl, hd⟩; (have hB := Drawn0.below hd); clear hd tok1; (have Ty := Aside0.mk (T5.out.below hB)); (have HXy := Aside0.mk (blk_below HX.out hB)); (have HRy := Aside0.mk (R_below HRS.out hB)); (have HCy := Aside0.mk (Kd.C_below HCx.out hB)); clear T5 HX HRS HCx; (have T5 := Ty); (have HX := HXy); (have HRS := HRy); (have HCx := HCy); clear Ty HXy HRy HCy hB) | (go_at_call 38; (with_reducible refine (rend_calls T5.out.rc _ HT.out.2.2.2.2.2.1).mono ?_); rintro r y2 ⟨rfl, hd⟩; (have hB := Drawn0.below hd); clear hd; (have Ty := Aside0.mk (T5.out.below hB)); (have HXy := Aside0.mk (blk_below HX.out hB)); (have HRy := Aside0.mk (R_below HRS.out hB)); (have HCy := Aside0.mk (Kd.C_below HCx.out hB)); clear T5 HX HRS HCx; (have T5 := Ty); (have HX := HXy); (have HRS := HRy); (have HCx := HCy); clear Ty HXy HRy HCy hB) | ((with_reducible refine wpList_load_row_g ?_ 27 (.tmp 6) rfl (p5 + 1) ?_ 27 #[.int .i64 ep, .slice AS ch.length cS, .int .i64 v1, .int .i64 v2, .int .i64 v3, .int .i64 v4] (0, 0) _ HX.out HUS.out ?_ ?_ ?_); (· rfl); (· rfl); (· rfl); (· exact HIS.out)) | ((with_reducible refine wpList_load_row rfl 27 (.tmp 6) rfl (p5 + 1) ?_ 27 #[.int .i64 ep, .slice AS ch.length cS, .int .i64 v1, .int .i64 v2, .int .i64 v3, .int .i64 v4] (0, 0) _ HX.out HUS.out ?_ ?_ ?_); (· rfl); (· rfl); (· exact HIS.out)) | (go_at_call 9; (with_reducible refine (hawserref21_Check.calls k _ _ _ _ _ _ _ _ _ _ (Kd.R_reads' HRS.out).2.2 (Kd.R_reads' HRS.out).2.1 HM.out).mono ?_); rintro r y3 ⟨rfl, hB⟩; (have Ty := Aside0.mk (T5.out.below hB)); (have HXy := Aside0.mk (blk_below HX.out hB)); (have HRy := Aside0.mk (R_below HRS.out hB)); (have HCy := Aside0.mk (Kd.C_below HCx.out hB)); clear T5 HX HRS HCx; (have T5 := Ty); (have HX := HXy); (have HRS := HRy); (have HCx := HCy); clear Ty HXy HRy HCy hB) | (go_at_call 6; (with_reducible refine (hawserref21_Encode.calls _ _ _ _ _ _ _ _ en er _ (Kd.R_reads' HRS.out).2.2 (Kd.R_reads' HRS.out).2.1 HN.out).mono ?_); rintro r y4 ⟨ve, rfl, hre, hB⟩; obtain ⟨Ae, ce, rfl⟩ := Kd.R_slice hre; (have HRE := Aside0.mk hre); clear hre; (have Ty := Aside0.mk (T5.out.below hB)); (have HXy := Aside0.mk (blk_below HX.out hB)); (have HRy := Aside0.mk (R_below HRS.out hB)); (have HCy := Aside0.mk (Kd.C_below HCx.out hB)); clear T5 HX HRS HCx; (have T5 := Ty); (have HX := HXy); (have HRS := HRy); (have HCx := HCy); clear Ty HXy HRy HCy hB; (have hcvA := fun (tt : Unit) => Kd.C_string (P := Try.prog) (A := Ae) (c := ce) Try.underlying30 Try.underlying5 Try.underlying9 (Kd.R_reads' HRE.out).2.2); (have hcv1 := hcvA ()); clear hcvA; (have hcv2 := Kd.C_string (P := Try.prog) (A := A) (c := c) Try.underlying30 Try.underlying5 Try.underlying9 HCx.out)) | ((with_reducible refine wpList_store_row rfl 27 (.tmp 2) (.tmp 78) rfl W.heap.size #[.int .i64 ep, .slice AS ch.length cS, .int .i64 v1, .int .i64 v2, .int .i64 v3, .int .i64 v4] ?d1 ?d2 27 zero6 ?c1 ?c2 ?c3 ?c4 ?_); (case d1 => rfl); (case d2 => rfl); (case c1 => exact T5.out.z); (case c2 => exact HIS.out); (case c3 => rfl); (case c4 => kernel_rfl)) | fail)
              refine bodyPost_ret (results_cell_slot (P := Try.prog) rfl _ _ W.heap.size 27 #[.int .i64 ep, .slice AS ch.length cS, .int .i64 v1, .int .i64 v2, .int .i64 v3, .int .i64 v4] (0, 0) _ rfl (setRow_heap _ _ _ _ 27 (0, 0) T5.out.z) HUS.out rfl HIS.out) rfl ?_
              exact ⟨fun _ => ⟨_, rfl, Kd.R_lower (R_but HRS.out T5.out.z (by decide) ⟨rfl, rfl, rfl, by simp [World.setRow], fun k _ hn => setRow_other _ _ k _ hn⟩) (by have := T5.out.n1; omega)⟩, fun h => absurd HOK1.out h, below_setRow T5.out.bel (Nat.le_refl _) _⟩
            · have HOK1 := Aside0.mk (fun h => hq (HOK.out.1 h).2.2.2)
              subst hn1 hn2 hmc
              have bq : ((strOfNums en).toList == (strOfNums xs).toList) = false := by simpa using hq
              have bq' : ((strOfNums en).toList != (strOfNums xs).toList) = true := by simpa using hq
              clear hq
              go_wp2_with (first | ((have t_ := tok1; clear t_); go_at_call 38; (with_reducible refine (rend_calls T5.out.rr _ HT.out.2.2.2.2.1).mono ?_); rintro r y1 ⟨rfl, hd⟩; (have hB := Drawn0.below hd); clear hd tok1; (have Ty := Aside0.mk (T5.out.below hB)); (have HXy := Aside0.mk (blk_below HX.out hB)); (have HRy := Aside0.mk (R_below HRS.out hB)); (have HCy := Aside0.mk (Kd.C_below HCx.out hB)); clear T5 HX HRS HCx; (have T5 := Ty); (have HX := HXy); (have HRS := HRy); (have HCx := HCy); clear Ty HXy HRy HCy hB) | (go_at_call 38; (with_reducible refine (rend_calls T5.out.rc _ HT.out.2.2.2.2.2.1).mono ?_); rintro r y2 ⟨rfl, hd⟩; (have hB := Drawn0.below hd); clear hd; (have Ty := Aside0.mk (T5.out.below hB)); (have HXy := Aside0.mk (blk_below HX.out hB)); (have HRy := Aside0.mk (R_below HRS.out hB)); (have HCy := Aside0.mk (Kd.C_below HCx.out hB)); clear T5 HX HRS HCx; (have T5 := Ty); (have HX := HXy); (have HRS := HRy); (have HCx := HCy); clear Ty HXy HRy HCy hB) | ((with_reducible refine wpList_load_row_g ?_ 27 (.tmp 6) rfl (p5 + 1) ?_ 27 #[.int .i64 ep, .slice AS ch.length cS, .int .i64 v1, .int .i64 v2, .int .i64 v3, .int .i64 v4] (0, 0) _ HX.out HUS.out ?_ ?_ ?_); (· rfl); (· rfl); (· rfl); (· exact HIS.out)) | ((with_reducible refine wpList_load_row rfl 27 (.tmp 6) rfl (p5 + 1) ?_ 27 #[.int .i64 ep, .slice AS ch.length cS, .int .i64 v1, .int .i64 v2, .int .i64 v3, .int .i64 v4] (0, 0) _ HX.out HUS.out ?_ ?_ ?_); (· rfl); (· rfl); (· exact HIS.out)) | (go_at_call 9; (with_reducible refine (hawserref21_Check.calls k _ _ _ _ _ _ _ _ _ _ (Kd.R_reads' HRS.out).2.2 (Kd.R_reads' HRS.out).2.1 HM.out).mono ?_); rintro r y3 ⟨rfl, hB⟩; (have Ty := Aside0.mk (T5.out.below hB)); (have HXy := Aside0.mk (blk_below HX.out hB)); (have HRy := Aside0.mk (R_below HRS.out hB)); (have HCy := Aside0.mk (Kd.C_below HCx.out hB)); clear T5 HX HRS HCx; (have T5 := Ty); (have HX := HXy); (have HRS := HRy); (have HCx := HCy); clear Ty HXy HRy HCy hB) | (go_at_call 6; (with_reducible refine (hawserref21_Encode.calls _ _ _ _ _ _ _ _ en er _ (Kd.R_reads' HRS.out).2.2 (Kd.R_reads' HRS.out).2.1 HN.out).mono ?_); rintro r y4 ⟨ve, rfl, hre, hB⟩; obtain ⟨Ae, ce, rfl⟩ := Kd.R_slice hre; (have HRE := Aside0.mk hre); clear hre; (have Ty := Aside0.mk (T5.out.below hB)); (have HXy := Aside0.mk (blk_below HX.out hB)); (have HRy := Aside0.mk (R_below HRS.out hB)); (have HCy := Aside0.mk (Kd.C_below HCx.out hB)); clear T5 HX HRS HCx; (have T5 := Ty); (have HX := HXy); (have HRS := HRy); (have HCx := HCy); clear Ty HXy HRy HCy hB; (have hcvA := fun (tt : Unit) => Kd.C_string (P := Try.prog) (A := Ae) (c := ce) Try.underlying30 Try.underlying5 Try.underlying9 (Kd.R_reads' HRE.out).2.2); (have hcv1 := hcvA ()); clear hcvA; (have hcv2 := Kd.C_string (P := Try.prog) (A := A) (c := c) Try.underlying30 Try.underlying5 Try.underlying9 HCx.out)) | ((with_reducible refine wpList_store_row rfl 27 (.tmp 2) (.tmp 77) rfl W.heap.size zero6 ?d1 ?d2 27 zero6 ?c1 ?c2 ?c3 ?c4 ?_); (case d1 => rfl); (case d2 => rfl); (case c1 => exact T5.out.z); (case c2 => exact HIS.out); (case c3 => rfl); (case c4 => kernel_rfl)) | fail)
              refine bodyPost_ret (results_cell_slot (P := Try.prog) rfl _ _ W.heap.size 27 zero6 (0, 0) _ rfl (setRow_heap _ _ _ _ 27 (0, 0) T5.out.z) HUS.out rfl HIS.out) rfl ?_
              exact ⟨fun h => absurd h HOK1.out, fun _ => rfl, below_setRow T5.out.bel (Nat.le_refl _) _⟩
          · have HOK1 := Aside0.mk (fun h => hmc (HOK.out.1 h).2.2.1)
            subst hn1 hn2
            have bm : (mc == 0) = false := by simpa using hmc
            have bm' : (mc != 0) = true := by simpa using hmc
            clear hmc
            go_wp2_with (first | ((have t_ := tok1; clear t_); go_at_call 38; (with_reducible refine (rend_calls T5.out.rr _ HT.out.2.2.2.2.1).mono ?_); rintro r y1 ⟨rfl, hd⟩; (have hB := Drawn0.below hd); clear hd tok1; (have Ty := Aside0.mk (T5.out.below hB)); (have HXy := Aside0.mk (blk_below HX.out hB)); (have HRy := Aside0.mk (R_below HRS.out hB)); (have HCy := Aside0.mk (Kd.C_below HCx.out hB)); clear T5 HX HRS HCx; (have T5 := Ty); (have HX := HXy); (have HRS := HRy); (have HCx := HCy); clear Ty HXy HRy HCy hB) | (go_at_call 38; (with_reducible refine (rend_calls T5.out.rc _ HT.out.2.2.2.2.2.1).mono ?_); rintro r y2 ⟨rfl, hd⟩; (have hB := Drawn0.below hd); clear hd; (have Ty := Aside0.mk (T5.out.below hB)); (have HXy := Aside0.mk (blk_below HX.out hB)); (have HRy := Aside0.mk (R_below HRS.out hB)); (have HCy := Aside0.mk (Kd.C_below HCx.out hB)); clear T5 HX HRS HCx; (have T5 := Ty); (have HX := HXy); (have HRS := HRy); (have HCx := HCy); clear Ty HXy HRy HCy hB) | ((with_reducible refine wpList_load_row_g ?_ 27 (.tmp 6) rfl (p5 + 1) ?_ 27 #[.int .i64 ep, .slice AS ch.length cS, .int .i64 v1, .int .i64 v2, .int .i64 v3, .int .i64 v4] (0, 0) _ HX.out HUS.out ?_ ?_ ?_); (· rfl); (· rfl); (· rfl); (· exact HIS.out)) | ((with_reducible refine wpList_load_row rfl 27 (.tmp 6) rfl (p5 + 1) ?_ 27 #[.int .i64 ep, .slice AS ch.length cS, .int .i64 v1, .int .i64 v2, .int .i64 v3, .int .i64 v4] (0, 0) _ HX.out HUS.out ?_ ?_ ?_); (· rfl); (· rfl); (· exact HIS.out)) | (go_at_call 9; (with_reducible refine (hawserref21_Check.calls k _ _ _ _ _ _ _ _ _ _ (Kd.R_reads' HRS.out).2.2 (Kd.R_reads' HRS.out).2.1 HM.out).mono ?_); rintro r y3 ⟨rfl, hB⟩; (have Ty := Aside0.mk (T5.out.below hB)); (have HXy := Aside0.mk (blk_below HX.out hB)); (have HRy := Aside0.mk (R_below HRS.out hB)); (have HCy := Aside0.mk (Kd.C_below HCx.out hB)); clear T5 HX HRS HCx; (have T5 := Ty); (have HX := HXy); (have HRS := HRy); (have HCx := HCy); clear Ty HXy HRy HCy hB) | (go_at_call 6; (with_reducible refine (hawserref21_Encode.calls _ _ _ _ _ _ _ _ en er _ (Kd.R_reads' HRS.out).2.2 (Kd.R_reads' HRS.out).2.1 HN.out).mono ?_); rintro r y4 ⟨ve, rfl, hre, hB⟩; obtain ⟨Ae, ce, rfl⟩ := Kd.R_slice hre; (have HRE := Aside0.mk hre); clear hre; (have Ty := Aside0.mk (T5.out.below hB)); (have HXy := Aside0.mk (blk_below HX.out hB)); (have HRy := Aside0.mk (R_below HRS.out hB)); (have HCy := Aside0.mk (Kd.C_below HCx.out hB)); clear T5 HX HRS HCx; (have T5 := Ty); (have HX := HXy); (have HRS := HRy); (have HCx := HCy); clear Ty HXy HRy HCy hB; (have hcvA := fun (tt : Unit) => Kd.C_string (P := Try.prog) (A := Ae) (c := ce) Try.underlying30 Try.underlying5 Try.underlying9 (Kd.R_reads' HRE.out).2.2); (have hcv1 := hcvA ()); clear hcvA; (have hcv2 := Kd.C_string (P := Try.prog) (A := A) (c := c) Try.underlying30 Try.underlying5 Try.underlying9 HCx.out)) | ((with_reducible refine wpList_store_row rfl 27 (.tmp 2) (.tmp 66) rfl W.heap.size zero6 ?d1 ?d2 27 zero6 ?c1 ?c2 ?c3 ?c4 ?_); (case d1 => rfl); (case d2 => rfl); (case c1 => exact T5.out.z); (case c2 => exact HIS.out); (case c3 => rfl); (case c4 => kernel_rfl)) | fail)
            refine bodyPost_ret (results_cell_slot (P := Try.prog) rfl _ _ W.heap.size 27 zero6 (0, 0) _ rfl (setRow_heap _ _ _ _ 27 (0, 0) T5.out.z) HUS.out rfl HIS.out) rfl ?_
            exact ⟨fun h => absurd h HOK1.out, fun _ => rfl, below_setRow T5.out.bel (Nat.le_refl _) _⟩
        · have HOK1 := Aside0.mk (fun h => hn2 (HOK.out.1 h).2.1)
          subst hn1
          have bm : (n2 == 0) = false := by simpa using hn2
          have bm' : (n2 != 0) = true := by simpa using hn2
          clear hn2
          go_wp2_with (first | ((have t_ := tok1; clear t_); go_at_call 38; (with_reducible refine (rend_calls T5.out.rr _ HT.out.2.2.2.2.1).mono ?_); rintro r y1 ⟨rfl, hd⟩; (have hB := Drawn0.below hd); clear hd tok1; (have Ty := Aside0.mk (T5.out.below hB)); (have HXy := Aside0.mk (blk_below HX.out hB)); (have HRy := Aside0.mk (R_below HRS.out hB)); (have HCy := Aside0.mk (Kd.C_below HCx.out hB)); clear T5 HX HRS HCx; (have T5 := Ty); (have HX := HXy); (have HRS := HRy); (have HCx := HCy); clear Ty HXy HRy HCy hB) | (go_at_call 38; (with_reducible refine (rend_calls T5.out.rc _ HT.out.2.2.2.2.2.1).mono ?_); rintro r y2 ⟨rfl, hd⟩; (have hB := Drawn0.below hd); clear hd; (have Ty := Aside0.mk (T5.out.below hB)); (have HXy := Aside0.mk (blk_below HX.out hB)); (have HRy := Aside0.mk (R_below HRS.out hB)); (have HCy := Aside0.mk (Kd.C_below HCx.out hB)); clear T5 HX HRS HCx; (have T5 := Ty); (have HX := HXy); (have HRS := HRy); (have HCx := HCy); clear Ty HXy HRy HCy hB) | ((with_reducible refine wpList_load_row_g ?_ 27 (.tmp 6) rfl (p5 + 1) ?_ 27 #[.int .i64 ep, .slice AS ch.length cS, .int .i64 v1, .int .i64 v2, .int .i64 v3, .int .i64 v4] (0, 0) _ HX.out HUS.out ?_ ?_ ?_); (· rfl); (· rfl); (· rfl); (· exact HIS.out)) | ((with_reducible refine wpList_load_row rfl 27 (.tmp 6) rfl (p5 + 1) ?_ 27 #[.int .i64 ep, .slice AS ch.length cS, .int .i64 v1, .int .i64 v2, .int .i64 v3, .int .i64 v4] (0, 0) _ HX.out HUS.out ?_ ?_ ?_); (· rfl); (· rfl); (· exact HIS.out)) | (go_at_call 9; (with_reducible refine (hawserref21_Check.calls k _ _ _ _ _ _ _ _ _ _ (Kd.R_reads' HRS.out).2.2 (Kd.R_reads' HRS.out).2.1 HM.out).mono ?_); rintro r y3 ⟨rfl, hB⟩; (have Ty := Aside0.mk (T5.out.below hB)); (have HXy := Aside0.mk (blk_below HX.out hB)); (have HRy := Aside0.mk (R_below HRS.out hB)); (have HCy := Aside0.mk (Kd.C_below HCx.out hB)); clear T5 HX HRS HCx; (have T5 := Ty); (have HX := HXy); (have HRS := HRy); (have HCx := HCy); clear Ty HXy HRy HCy hB) | (go_at_call 6; (with_reducible refine (hawserref21_Encode.calls _ _ _ _ _ _ _ _ en er _ (Kd.R_reads' HRS.out).2.2 (Kd.R_reads' HRS.out).2.1 HN.out).mono ?_); rintro r y4 ⟨ve, rfl, hre, hB⟩; obtain ⟨Ae, ce, rfl⟩ := Kd.R_slice hre; (have HRE := Aside0.mk hre); clear hre; (have Ty := Aside0.mk (T5.out.below hB)); (have HXy := Aside0.mk (blk_below HX.out hB)); (have HRy := Aside0.mk (R_below HRS.out hB)); (have HCy := Aside0.mk (Kd.C_below HCx.out hB)); clear T5 HX HRS HCx; (have T5 := Ty); (have HX := HXy); (have HRS := HRy); (have HCx := HCy); clear Ty HXy HRy HCy hB; (have hcvA := fun (tt : Unit) => Kd.C_string (P := Try.prog) (A := Ae) (c := ce) Try.underlying30 Try.underlying5 Try.underlying9 (Kd.R_reads' HRE.out).2.2); (have hcv1 := hcvA ()); clear hcvA; (have hcv2 := Kd.C_string (P := Try.prog) (A := A) (c := c) Try.underlying30 Try.underlying5 Try.underlying9 HCx.out)) | ((with_reducible refine wpList_store_row rfl 27 (.tmp 2) (.tmp 66) rfl W.heap.size zero6 ?d1 ?d2 27 zero6 ?c1 ?c2 ?c3 ?c4 ?_); (case d1 => rfl); (case d2 => rfl); (case c1 => exact T5.out.z); (case c2 => exact HIS.out); (case c3 => rfl); (case c4 => kernel_rfl)) | fail)
          refine bodyPost_ret (results_cell_slot (P := Try.prog) rfl _ _ W.heap.size 27 zero6 (0, 0) _ rfl (setRow_heap _ _ _ _ 27 (0, 0) T5.out.z) HUS.out rfl HIS.out) rfl ?_
          exact ⟨fun h => absurd h HOK1.out, fun _ => rfl, below_setRow T5.out.bel (Nat.le_refl _) _⟩
      · have HOK1 := Aside0.mk (fun h => hn1 (HOK.out.1 h).1)
        have bm : (n1 == 0) = false := by simpa using hn1
        have bm' : (n1 != 0) = true := by simpa using hn1
        clear hn1
        go_wp2_with (first | ((have t_ := tok1; clear t_); go_at_call 38; (with_reducible refine (rend_calls T5.out.rr _ HT.out.2.2.2.2.1).mono ?_); rintro r y1 ⟨rfl, hd⟩; (have hB := Drawn0.below hd); clear hd tok1; (have Ty := Aside0.mk (T5.out.below hB)); (have HXy := Aside0.mk (blk_below HX.out hB)); (have HRy := Aside0.mk (R_below HRS.out hB)); (have HCy := Aside0.mk (Kd.C_below HCx.out hB)); clear T5 HX HRS HCx; (have T5 := Ty); (have HX := HXy); (have HRS := HRy); (have HCx := HCy); clear Ty HXy HRy HCy hB) | (go_at_call 38; (with_reducible refine (rend_calls T5.out.rc _ HT.out.2.2.2.2.2.1).mono ?_); rintro r y2 ⟨rfl, hd⟩; (have hB := Drawn0.below hd); clear hd; (have Ty := Aside0.mk (T5.out.below hB)); (have HXy := Aside0.mk (blk_below HX.out hB)); (have HRy := Aside0.mk (R_below HRS.out hB)); (have HCy := Aside0.mk (Kd.C_below HCx.out hB)); clear T5 HX HRS HCx; (have T5 := Ty); (have HX := HXy); (have HRS := HRy); (have HCx := HCy); clear Ty HXy HRy HCy hB) | ((with_reducible refine wpList_load_row_g ?_ 27 (.tmp 6) rfl (p5 + 1) ?_ 27 #[.int .i64 ep, .slice AS ch.length cS, .int .i64 v1, .int .i64 v2, .int .i64 v3, .int .i64 v4] (0, 0) _ HX.out HUS.out ?_ ?_ ?_); (· rfl); (· rfl); (· rfl); (· exact HIS.out)) | ((with_reducible refine wpList_load_row rfl 27 (.tmp 6) rfl (p5 + 1) ?_ 27 #[.int .i64 ep, .slice AS ch.length cS, .int .i64 v1, .int .i64 v2, .int .i64 v3, .int .i64 v4] (0, 0) _ HX.out HUS.out ?_ ?_ ?_); (· rfl); (· rfl); (· exact HIS.out)) | (go_at_call 9; (with_reducible refine (hawserref21_Check.calls k _ _ _ _ _ _ _ _ _ _ (Kd.R_reads' HRS.out).2.2 (Kd.R_reads' HRS.out).2.1 HM.out).mono ?_); rintro r y3 ⟨rfl, hB⟩; (have Ty := Aside0.mk (T5.out.below hB)); (have HXy := Aside0.mk (blk_below HX.out hB)); (have HRy := Aside0.mk (R_below HRS.out hB)); (have HCy := Aside0.mk (Kd.C_below HCx.out hB)); clear T5 HX HRS HCx; (have T5 := Ty); (have HX := HXy); (have HRS := HRy); (have HCx := HCy); clear Ty HXy HRy HCy hB) | (go_at_call 6; (with_reducible refine (hawserref21_Encode.calls _ _ _ _ _ _ _ _ en er _ (Kd.R_reads' HRS.out).2.2 (Kd.R_reads' HRS.out).2.1 HN.out).mono ?_); rintro r y4 ⟨ve, rfl, hre, hB⟩; obtain ⟨Ae, ce, rfl⟩ := Kd.R_slice hre; (have HRE := Aside0.mk hre); clear hre; (have Ty := Aside0.mk (T5.out.below hB)); (have HXy := Aside0.mk (blk_below HX.out hB)); (have HRy := Aside0.mk (R_below HRS.out hB)); (have HCy := Aside0.mk (Kd.C_below HCx.out hB)); clear T5 HX HRS HCx; (have T5 := Ty); (have HX := HXy); (have HRS := HRy); (have HCx := HCy); clear Ty HXy HRy HCy hB; (have hcvA := fun (tt : Unit) => Kd.C_string (P := Try.prog) (A := Ae) (c := ce) Try.underlying30 Try.underlying5 Try.underlying9 (Kd.R_reads' HRE.out).2.2); (have hcv1 := hcvA ()); clear hcvA; (have hcv2 := Kd.C_string (P := Try.prog) (A := A) (c := c) Try.underlying30 Try.underlying5 Try.underlying9 HCx.out)) | ((with_reducible refine wpList_store_row rfl 27 (.tmp 2) (.tmp 66) rfl W.heap.size zero6 ?d1 ?d2 27 zero6 ?c1 ?c2 ?c3 ?c4 ?_); (case d1 => rfl); (case d2 => rfl); (case c1 => exact T5.out.z); (case c2 => exact HIS.out); (case c3 => rfl); (case c4 => kernel_rfl)) | fail)
        refine bodyPost_ret (results_cell_slot (P := Try.prog) rfl _ _ W.heap.size 27 zero6 (0, 0) _ rfl (setRow_heap _ _ _ _ 27 (0, 0) T5.out.z) HUS.out rfl HIS.out) rfl ?_
        exact ⟨fun h => absurd h HOK1.out, fun _ => rfl, below_setRow T5.out.bel (Nat.le_refl _) _⟩
end Rdr

theorem Rdr.RInt_mono (k : Nat) (xs : List Int) (a e m : Int) : LeO (Rdr.RInt k xs a e m) (Rdr.RInt (k + 1) xs a e m) := LeO.ite (LeO.bind (hawserref03_upto.mono _ _ _ _) fun _ => LeO.refl _) (LeO.refl _)
theorem Rdr.RText_mono (k : Nat) (xs : List Int) (a e m : Int) : LeO (Rdr.RText k xs a e m) (Rdr.RText (k + 1) xs a e m) := LeO.ite (LeO.bind (hawserref03_text.mono _ _ _ _) fun _ => LeO.refl _) (LeO.refl _)
theorem Rdr.rchain_mono (k : Nat) (ys : List Int) : ∀ (m : Nat) (b f : Int) (ch : List Int), LeO (Rdr.rchain k ys m b f ch) (Rdr.rchain (k + 1) ys m b f ch)
  | 0, _, _, _ => LeO.refl _
  | m + 1, _, _, _ => LeO.bind (Rdr.RInt_mono _ _ _ _ _) fun _ => Rdr.rchain_mono k ys m _ _ _
def hawserref21_Decode.f (k : Nat) (l : List Int) : Option (Int × List Int × Int × Int × Int × Int × Int) :=
  if l.length ≤ 1048576 then (Rdr.RText k l 0 0 (l.length : Int)).bind fun t => if t.1.size ≤ 1099511627776 then (Rdr.RInt k (Rdr.bytesOf t.1) 0 0 1099511627776).bind fun c => (Rdr.RInt k (Rdr.bytesOf t.1) c.2.1 c.2.2 8).bind fun n => if 0 ≤ n.1 ∧ n.1 ≤ 1000 then (Rdr.rchain k (Rdr.bytesOf t.1) n.1.toNat n.2.1 n.2.2 []).bind fun d =>
    (Rdr.RInt k l t.2.1 t.2.2 1152921504606846976).bind fun i1 => (Rdr.RInt k l i1.2.1 i1.2.2 1152921504606846976).bind fun i2 => (Rdr.RInt k l i2.2.1 i2.2.2 1152921504606846976).bind fun i3 => (Rdr.RInt k l i3.2.1 i3.2.2 1152921504606846976).bind fun i4 =>
      if Rdr.REnd l i4.2.1 i4.2.2 = 0 then (if Rdr.REnd (Rdr.bytesOf t.1) d.1 d.2.1 = 0 then (hawserref21_Check.f k c.1 d.2.2 i1.1 i2.1 i3.1 i4.1).bind fun m => if m = 0 then (hawserref21_Encode.f c.1 d.2.2 i1.1 i2.1 i3.1 i4.1).bind fun q => if (strOfNums q.1).toList = (strOfNums l).toList then some (c.1, d.2.2, i1.1, i2.1, i3.1, i4.1, 0) else some (0, [], 0, 0, 0, 0, 32) else some (0, [], 0, 0, 0, 0, 32) else some (0, [], 0, 0, 0, 0, 32)) else some (0, [], 0, 0, 0, 0, 32)
    else none else none
  else none
theorem hawserref21_Decode.mono : ∀ a0 k, LeO (hawserref21_Decode.f k a0) (hawserref21_Decode.f (k + 1) a0) := fun a0 k =>
  LeO.ite (LeO.bind (Rdr.RText_mono _ _ _ _ _) fun _ => LeO.ite (LeO.bind (Rdr.RInt_mono _ _ _ _ _) fun _ => LeO.bind (Rdr.RInt_mono _ _ _ _ _) fun _ => LeO.ite (LeO.bind (Rdr.rchain_mono _ _ _ _ _ _) fun _ => LeO.bind (Rdr.RInt_mono _ _ _ _ _) fun _ => LeO.bind (Rdr.RInt_mono _ _ _ _ _) fun _ => LeO.bind (Rdr.RInt_mono _ _ _ _ _) fun _ => LeO.bind (Rdr.RInt_mono _ _ _ _ _) fun _ =>
    LeO.ite (LeO.ite (LeO.bind (hawserref21_Check.mono _ _ _ _ _ _ _) fun _ => LeO.refl _) (LeO.refl _)) (LeO.refl _)) (LeO.refl _)) (LeO.refl _)) (LeO.refl _)
theorem hawserref21_Decode.calls (k : Nat) (A0 : Option Addr) (c0 : Nat) (l0 : List Int) (r1 : Int) (r2 : List Int) (r3 r4 r5 r6 r7 : Int) (w : World) (hr0 : Kd.C (Kd.int .u8) w A0 l0.length l0) (hc0 : l0.length ≤ c0) (h : hawserref21_Decode.f k l0 = some (r1, r2, r3, r4, r5, r6, r7)) :
    Calls Try.prog 16 #[.slice A0 l0.length c0] w fun e w' => ∃ v1_ : Value, e = .returned (.tuple #[.agg #[.int .i64 r1, v1_, .int .i64 r3, .int .i64 r4, .int .i64 r5, .int .i64 r6], .int .i64 r7]) ∧ Kd.R (Kd.int .i64) 3 w' w.heap.size (fun _ => True) v1_ r2 ∧ Below w.heap.size w w' := by
  unfold hawserref21_Decode.f at h
  split at h
  case isFalse => cases h
  rename_i hl
  obtain ⟨⟨s, a1, e1⟩, h1, h⟩ := Option.bind_eq_some_iff.1 h
  simp only at h
  split at h
  case isFalse => cases h
  rename_i hs
  obtain ⟨⟨ep, b1, f1⟩, h2, h⟩ := Option.bind_eq_some_iff.1 h
  obtain ⟨⟨n, b2, f2⟩, h3, h⟩ := Option.bind_eq_some_iff.1 h
  simp only at h3 h
  split at h
  case isFalse => cases h
  rename_i hn
  obtain ⟨m, rfl⟩ : ∃ m : Nat, n = m := ⟨n.toNat, by omega⟩
  rw [Int.toNat_natCast] at h
  obtain ⟨⟨b3, f3, ch⟩, h4, h⟩ := Option.bind_eq_some_iff.1 h
  obtain ⟨⟨v1, a2, e2⟩, g1, h⟩ := Option.bind_eq_some_iff.1 h
  obtain ⟨⟨v2, a3, e3⟩, g2, h⟩ := Option.bind_eq_some_iff.1 h
  obtain ⟨⟨v3, a4, e4⟩, g3, h⟩ := Option.bind_eq_some_iff.1 h
  obtain ⟨⟨v4, a5, e5⟩, g4, h⟩ := Option.bind_eq_some_iff.1 h
  simp only at g1 g2 g3 g4 h
  have go := fun mc hm en er he => Rdr.rdec_calls hr0 hc0 (by omega) k s a1 e1 ep b1 f1 m b2 f2 b3 f3 ch h1 hs h2 h3 (by omega) h4 v1 a2 e2 v2 a3 e3 v3 a4 e4 v4 a5 e5 g1 g2 g3 g4 _ _ mc rfl rfl hm en er he _ Iff.rfl
  have bad : ∀ (mc : Int) (hm : Rdr.REnd l0 a5 e5 = 0 → Rdr.REnd (Rdr.bytesOf s) b3 f3 = 0 → hawserref21_Check.f k ep ch v1 v2 v3 v4 = some mc) (en : List Int) (er : Int) (he : Rdr.REnd l0 a5 e5 = 0 → Rdr.REnd (Rdr.bytesOf s) b3 f3 = 0 → mc = 0 → hawserref21_Encode.f ep ch v1 v2 v3 v4 = some (en, er)), ¬ (Rdr.REnd l0 a5 e5 = 0 ∧ Rdr.REnd (Rdr.bytesOf s) b3 f3 = 0 ∧ mc = 0 ∧ (strOfNums en).toList = (strOfNums l0).toList) → (some (0, [], 0, 0, 0, 0, 32) : Option (Int × List Int × Int × Int × Int × Int × Int)) = some (r1, r2, r3, r4, r5, r6, r7) →
      Calls Try.prog 16 #[.slice A0 l0.length c0] w fun e w' => ∃ v1_ : Value, e = .returned (.tuple #[.agg #[.int .i64 r1, v1_, .int .i64 r3, .int .i64 r4, .int .i64 r5, .int .i64 r6], .int .i64 r7]) ∧ Kd.R (Kd.int .i64) 3 w' w.heap.size (fun _ => True) v1_ r2 ∧ Below w.heap.size w w' := by
    intro mc hm en er he hno hq
    simp only [Option.some.injEq, Prod.mk.injEq] at hq
    obtain ⟨rfl, rfl, rfl, rfl, rfl, rfl, rfl⟩ := hq
    refine (go mc hm en er he).mono ?_
    rintro e w' ⟨_, hb, hB⟩
    exact ⟨_, hb hno, Kd.R_nil _ _ _ _ _, hB⟩
  split at h
  · rename_i hp
    split at h
    · rename_i hec
      obtain ⟨mc, hm, h⟩ := Option.bind_eq_some_iff.1 h
      try simp only at h
      split at h
      · rename_i hz
        obtain ⟨⟨en, er⟩, he, h⟩ := Option.bind_eq_some_iff.1 h
        try simp only at h
        split at h
        · rename_i hq
          simp only [Option.some.injEq, Prod.mk.injEq] at h
          obtain ⟨rfl, rfl, rfl, rfl, rfl, rfl, rfl⟩ := h
          refine (go mc (fun _ _ => hm) en er (fun _ _ _ => he)).mono ?_
          rintro e w' ⟨hg, _, hB⟩
          obtain ⟨v, he, hR⟩ := hg ⟨hp, hec, hz, hq⟩
          exact ⟨v, he, hR, hB⟩
        · rename_i hq
          exact bad mc (fun _ _ => hm) en er (fun _ _ _ => he) (fun h => hq h.2.2.2) h
      · rename_i hz
        exact bad mc (fun _ _ => hm) [] 0 (fun _ _ h => absurd h hz) (fun h => hz h.2.2.1) h
    · rename_i hec
      exact bad 0 (fun _ h => absurd h hec) [] 0 (fun _ h => absurd h hec) (fun h => hec h.2.1) h
  · rename_i hp
    exact bad 0 (fun h _ => absurd h hp) [] 0 (fun h => absurd h hp) (fun h => hp h.1) h

end Go.Proofs.Ytkkmceejfmjidaa.G
