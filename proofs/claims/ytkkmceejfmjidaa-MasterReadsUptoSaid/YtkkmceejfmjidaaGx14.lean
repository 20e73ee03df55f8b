-- Written for this claim by a program of this session (wip/xprint.py), by means of the kit's print. Not trusted: Lean checks it.
import Derived.Test.YtkkmceejfmjidaaGx0
import Derived.Test.YtkkmceejfmjidaaGx13
namespace Go.Proofs.Ytkkmceejfmjidaa.G
open Go.RowKit Go.Proofs.YtkkmceejfmjidaaW.PrintWords Go.Proofs.YtkkmceejfmjidaaW.PrintLast Go.Proofs.YtkkmceejfmjidaaW.PrintMore
attribute [local go_sem] max2_int min2_int max_two min_two max_three min_three max_four min_four   -- for this text's walks alone
set_option linter.unusedVariables false
set_option linter.unusedSimpArgs false

/-! ### hawserref03_number: function 66 -/
def hawserref03_number.f (k : Nat) (l0 : List Int) (a1 : Int) : Option (Int × Int × Int) := if 0 ≤ a1 then (if a1 ≤ (l0.length : Int) then ((hawserref01_Read.f k (l0.drop (a1 : Int).toNat)).bind fun bt186 => (if bt186.2.2 = 10 then (some (0, 0, 30)) else (if bt186.2.2 = 11 then (some (0, 0, 31)) else (if bt186.2.2 = 12 then (some (0, 0, 32)) else (some (bt186.1, wrap64 (a1 + bt186.2.1), 0)))))) else (none)) else (none)
theorem hawserref03_number.mono : ∀ a0 a1 k, LeO (hawserref03_number.f k a0 a1) (hawserref03_number.f (k + 1) a0 a1) := by
  intro a0 a1 k
  unfold hawserref03_number.f
  repeat' first
      | (with_reducible exact hawserref01_Read.mono _ _)
      | (with_reducible exact LeO.refl _)
      | (with_reducible exact LeO.none _)
      | (with_reducible refine LeO.ite ?_ ?_)
      | (with_reducible refine LeO.bind ?_ (fun _ => ?_))
      | exact hawserref01_Read.mono _ _
      | exact LeO.none _
      | refine LeO.ite ?_ ?_
      | refine LeO.bind ?_ (fun _ => ?_)
set_option maxHeartbeats 8000000 in
set_option maxRecDepth 100000 in
theorem hawserref03_number.calls (k : Nat) (A0 : Option Addr) (c0 : Nat) (l0 : List Int) (a1 : Int) (r1 : Int) (r2 : Int) (r3 : Int) (w : World) (hr0 : Kd.C (Kd.int .u8) w A0 l0.length l0) (hc0 : l0.length ≤ c0) (h : hawserref03_number.f k l0 a1 = some (r1, r2, r3)) :
    Calls Try.prog 66 #[.slice A0 l0.length c0, .int .i64 a1] w fun e w' => e = .returned (.tuple #[.int .u64 r1, .int .i64 r2, .int .i64 r3]) ∧ Drawn0 w w' := by
  have HR0 := A_ hr0
  have HC0 := A_ hc0
  clear hr0 hc0
  have H : (if 0 ≤ a1 then (if a1 ≤ (l0.length : Int) then ((hawserref01_Read.f k (l0.drop (a1 : Int).toNat)).bind fun bt186 => (if bt186.2.2 = 10 then (some (0, 0, 30)) else (if bt186.2.2 = 11 then (some (0, 0, 31)) else (if bt186.2.2 = 12 then (some (0, 0, 32)) else (some (bt186.1, wrap64 (a1 + bt186.2.1), 0)))))) else (none)) else (none)) = some (r1, r2, r3) := h
  clear h
  by_cases c3 : 0 ≤ a1
  · rw [if_pos c3] at H
    have c3b0 := eq_true c3
    have c3b1 : decide (0 ≤ a1) = true := decide_eq_true c3
    clear c3
    by_cases c4 : a1 ≤ (l0.length : Int)
    · rw [if_pos c4] at H
      have c4b0 := eq_true c4
      have c4b1 : decide (a1 ≤ (l0.length : Int)) = true := decide_eq_true c4
      clear c4
      replace H := Option.bind_eq_some_iff.mp H
      obtain ⟨⟨t186, t187, t188⟩, A50, H⟩ := H
      replace H : (if t188 = 10 then (some (0, 0, 30)) else (if t188 = 11 then (some (0, 0, 31)) else (if t188 = 12 then (some (0, 0, 32)) else (some (t186, wrap64 (a1 + t187), 0))))) = some (r1, r2, r3) := H
      have A5 := A_ A50
      clear A50
      by_cases c6 : t188 = 10
      · rw [if_pos c6] at H
        have c6b0 : (t188 == 10) = true := beq_iff_eq.mpr c6
        have c6b1 : (t188 != 10) = false := bne_eq_false_iff_eq.mpr c6
        clear c6
        simp only [Option.some.injEq, Prod.mk.injEq] at H
        obtain ⟨rfl, rfl, rfl⟩ := H
        obtain ⟨i07, hi07, _, hsz7, _⟩ := info_parts info5
        obtain ⟨A7, hcut7, hA7, hC7⟩ := print_drop_of (P := Try.prog) (Value.int .u8) 0 30 5 .i64 Try.underlying30 hi07 hsz7 A0 c0 l0 a1 (of_decide_eq_true (by first | (with_reducible assumption) | assumption)) (of_decide_eq_true (by first | (with_reducible assumption) | assumption)) HC0.out
        have HR185 := A_ (Kd.C_of_reads (h1 := fun _ => rfl) (hA7 _ (Kd.reads_of_C HR0.out)))
        have HC185 := A_ hC7
        clear hA7 hC7 hi07 hsz7
        go_enter Try.func66, Try.ntmps66
        go_wp2_with (first | ((with_reducible refine gate_callee (f := 68) rfl ?_); refine goesL_ (some 14) rfl rfl Try.func68 (by kernel_rfl) rfl #[.slice A7 (l0.drop (a1 : Int).toNat).length (c0 - a1.toNat)] rfl (by (try simp only [List.map_toArray, List.map_cons, List.map_nil]); first | done | (rw [show (l0.drop (a1 : Int).toNat).length = (l0.length - a1.toNat) from List.length_drop] <;> rfl) | rfl | (simp only [List.length_drop, List.length_take]; rfl)) ?_; (with_reducible refine (hawserref01_Read.calls k _ _ (l0.drop (a1 : Int).toNat) t186 t187 t188 _ ?side1 ?side2 A5.out).mono ?_); (case side1 => repeat (first | exact HR185.out | (with_reducible refine Kd.C_alloc ?_ _) | (with_reducible refine Kd.C_drewN ?_ _) | (with_reducible refine Kd.C_drew ?_))); (case side2 => exact HC185.out); rintro e w' ⟨rfl, ⟨nd, rfl⟩⟩; refine ⟨_, rfl, ?_⟩))
        go_ret3
        exact ⟨by first | rfl | (simp; done) | (simp [*]; done), by repeat (first | exact Drawn0.refl _ | apply Drawn0.step)⟩
      · rw [if_neg c6] at H
        have c6b0 : (t188 == 10) = false := beq_eq_false_iff_ne.mpr c6
        have c6b1 : (t188 != 10) = true := bne_iff_ne.mpr c6
        by_cases c8 : t188 = 11
        · rw [if_pos c8] at H
          have c8b0 : (t188 == 11) = true := beq_iff_eq.mpr c8
          have c8b1 : (t188 != 11) = false := bne_eq_false_iff_eq.mpr c8
          clear c8
          simp only [Option.some.injEq, Prod.mk.injEq] at H
          obtain ⟨rfl, rfl, rfl⟩ := H
          obtain ⟨i09, hi09, _, hsz9, _⟩ := info_parts info5
          obtain ⟨A9, hcut9, hA9, hC9⟩ := print_drop_of (P := Try.prog) (Value.int .u8) 0 30 5 .i64 Try.underlying30 hi09 hsz9 A0 c0 l0 a1 (of_decide_eq_true (by first | (with_reducible assumption) | assumption)) (of_decide_eq_true (by first | (with_reducible assumption) | assumption)) HC0.out
          have HR185 := A_ (Kd.C_of_reads (h1 := fun _ => rfl) (hA9 _ (Kd.reads_of_C HR0.out)))
          have HC185 := A_ hC9
          clear hA9 hC9 hi09 hsz9
          go_enter Try.func66, Try.ntmps66
          go_wp2_with (first | ((with_reducible refine gate_callee (f := 68) rfl ?_); refine goesL_ (some 14) rfl rfl Try.func68 (by kernel_rfl) rfl #[.slice A9 (l0.drop (a1 : Int).toNat).length (c0 - a1.toNat)] rfl (by (try simp only [List.map_toArray, List.map_cons, List.map_nil]); first | done | (rw [show (l0.drop (a1 : Int).toNat).length = (l0.length - a1.toNat) from List.length_drop] <;> rfl) | rfl | (simp only [List.length_drop, List.length_take]; rfl)) ?_; (with_reducible refine (hawserref01_Read.calls k _ _ (l0.drop (a1 : Int).toNat) t186 t187 t188 _ ?side1 ?side2 A5.out).mono ?_); (case side1 => repeat (first | exact HR185.out | (with_reducible refine Kd.C_alloc ?_ _) | (with_reducible refine Kd.C_drewN ?_ _) | (with_reducible refine Kd.C_drew ?_))); (case side2 => exact HC185.out); rintro e w' ⟨rfl, ⟨nd, rfl⟩⟩; refine ⟨_, rfl, ?_⟩))
          go_ret3
          exact ⟨by first | rfl | (simp; done) | (simp [*]; done), by repeat (first | exact Drawn0.refl _ | apply Drawn0.step)⟩
        · rw [if_neg c8] at H
          have c8b0 : (t188 == 11) = false := beq_eq_false_iff_ne.mpr c8
          have c8b1 : (t188 != 11) = true := bne_iff_ne.mpr c8
          by_cases c10 : t188 = 12
          · rw [if_pos c10] at H
            have c10b0 : (t188 == 12) = true := beq_iff_eq.mpr c10
            have c10b1 : (t188 != 12) = false := bne_eq_false_iff_eq.mpr c10
            clear c10
            simp only [Option.some.injEq, Prod.mk.injEq] at H
            obtain ⟨rfl, rfl, rfl⟩ := H
            obtain ⟨i011, hi011, _, hsz11, _⟩ := info_parts info5
            obtain ⟨A11, hcut11, hA11, hC11⟩ := print_drop_of (P := Try.prog) (Value.int .u8) 0 30 5 .i64 Try.underlying30 hi011 hsz11 A0 c0 l0 a1 (of_decide_eq_true (by first | (with_reducible assumption) | assumption)) (of_decide_eq_true (by first | (with_reducible assumption) | assumption)) HC0.out
            have HR185 := A_ (Kd.C_of_reads (h1 := fun _ => rfl) (hA11 _ (Kd.reads_of_C HR0.out)))
            have HC185 := A_ hC11
            clear hA11 hC11 hi011 hsz11
            go_enter Try.func66, Try.ntmps66
            go_wp2_with (first | ((with_reducible refine gate_callee (f := 68) rfl ?_); refine goesL_ (some 14) rfl rfl Try.func68 (by kernel_rfl) rfl #[.slice A11 (l0.drop (a1 : Int).toNat).length (c0 - a1.toNat)] rfl (by (try simp only [List.map_toArray, List.map_cons, List.map_nil]); first | done | (rw [show (l0.drop (a1 : Int).toNat).length = (l0.length - a1.toNat) from List.length_drop] <;> rfl) | rfl | (simp only [List.length_drop, List.length_take]; rfl)) ?_; (with_reducible refine (hawserref01_Read.calls k _ _ (l0.drop (a1 : Int).toNat) t186 t187 t188 _ ?side1 ?side2 A5.out).mono ?_); (case side1 => repeat (first | exact HR185.out | (with_reducible refine Kd.C_alloc ?_ _) | (with_reducible refine Kd.C_drewN ?_ _) | (with_reducible refine Kd.C_drew ?_))); (case side2 => exact HC185.out); rintro e w' ⟨rfl, ⟨nd, rfl⟩⟩; refine ⟨_, rfl, ?_⟩))
            go_ret3
            exact ⟨by first | rfl | (simp; done) | (simp [*]; done), by repeat (first | exact Drawn0.refl _ | apply Drawn0.step)⟩
          · rw [if_neg c10] at H
            have c10b0 : (t188 == 12) = false := beq_eq_false_iff_ne.mpr c10
            have c10b1 : (t188 != 12) = true := bne_iff_ne.mpr c10
            simp only [Option.some.injEq, Prod.mk.injEq] at H
            obtain ⟨rfl, rfl, rfl⟩ := H
            obtain ⟨i012, hi012, _, hsz12, _⟩ := info_parts info5
            obtain ⟨A12, hcut12, hA12, hC12⟩ := print_drop_of (P := Try.prog) (Value.int .u8) 0 30 5 .i64 Try.underlying30 hi012 hsz12 A0 c0 l0 a1 (of_decide_eq_true (by first | (with_reducible assumption) | assumption)) (of_decide_eq_true (by first | (with_reducible assumption) | assumption)) HC0.out
            have HR185 := A_ (Kd.C_of_reads (h1 := fun _ => rfl) (hA12 _ (Kd.reads_of_C HR0.out)))
            have HC185 := A_ hC12
            clear hA12 hC12 hi012 hsz12
            go_enter Try.func66, Try.ntmps66
            go_wp2_with (first | ((with_reducible refine gate_callee (f := 68) rfl ?_); refine goesL_ (some 14) rfl rfl Try.func68 (by kernel_rfl) rfl #[.slice A12 (l0.drop (a1 : Int).toNat).length (c0 - a1.toNat)] rfl (by (try simp only [List.map_toArray, List.map_cons, List.map_nil]); first | done | (rw [show (l0.drop (a1 : Int).toNat).length = (l0.length - a1.toNat) from List.length_drop] <;> rfl) | rfl | (simp only [List.length_drop, List.length_take]; rfl)) ?_; (with_reducible refine (hawserref01_Read.calls k _ _ (l0.drop (a1 : Int).toNat) t186 t187 t188 _ ?side1 ?side2 A5.out).mono ?_); (case side1 => repeat (first | exact HR185.out | (with_reducible refine Kd.C_alloc ?_ _) | (with_reducible refine Kd.C_drewN ?_ _) | (with_reducible refine Kd.C_drew ?_))); (case side2 => exact HC185.out); rintro e w' ⟨rfl, ⟨nd, rfl⟩⟩; refine ⟨_, rfl, ?_⟩))
            go_ret3
            exact ⟨by first | rfl | (simp; done) | (simp [*]; done), by repeat (first | exact Drawn0.refl _ | apply Drawn0.step)⟩
    · rw [if_neg c4] at H
      exact absurd H (by simp)
  · rw [if_neg c3] at H
    exact absurd H (by simp)

/-! ### hawserref03_upto: function 57 -/
def hawserref03_upto.j0 : Nat → Int → Int → Int → Bool → Option (Int × Int × Int)
  | 0, _, _, _, _ => none
  | k + 1, x9, x10, x11, x28 => if x28 = true then (if 31 = 0 then (some (wrap64 (x9), x10, 0)) else (some (0, 0, 31))) else (if x11 = 0 then (some (wrap64 (x9), x10, 0)) else (some (0, 0, x11)))
def hawserref03_upto.f (k : Nat) (l0 : List Int) (a1 : Int) (a2 : Int) : Option (Int × Int × Int) := if a2 < 0 then (some (0, 0, 1)) else ((hawserref03_number.f k l0 a1).bind fun bt189 => (if bt189.2.2 = 0 then (hawserref03_upto.j0 k bt189.1 bt189.2.1 bt189.2.2 (decide (bt189.1 > (IntKind.u64.wrap (a2))))) else (hawserref03_upto.j0 k bt189.1 bt189.2.1 bt189.2.2 false)))
theorem hawserref03_upto.mono_l : ∀ k, (∀ y0 y1 y2 y3, LeO (hawserref03_upto.j0 k y0 y1 y2 y3) (hawserref03_upto.j0 (k + 1) y0 y1 y2 y3))
  | 0 => fun _ _ _ _ r h => by simp [hawserref03_upto.j0] at h
  | k + 1 => by
    have ih0 := hawserref03_upto.mono_l k
    · intro y0 y1 y2 y3
      unfold hawserref03_upto.j0
      repeat' first
      | (with_reducible exact ih0 _ _ _ _)
      | (with_reducible exact hawserref03_number.mono _ _ _)
      | (with_reducible exact LeO.refl _)
      | (with_reducible exact LeO.none _)
      | (with_reducible refine LeO.ite ?_ ?_)
      | (with_reducible refine LeO.bind ?_ (fun _ => ?_))
      | exact ih0 _ _ _ _
      | exact hawserref03_number.mono _ _ _
      | exact LeO.none _
      | refine LeO.ite ?_ ?_
      | refine LeO.bind ?_ (fun _ => ?_)
theorem hawserref03_upto.mono : ∀ a0 a1 a2 k, LeO (hawserref03_upto.f k a0 a1 a2) (hawserref03_upto.f (k + 1) a0 a1 a2) := by
  intro a0 a1 a2 k
  have ih0 := hawserref03_upto.mono_l k
  unfold hawserref03_upto.f
  repeat' first
      | (with_reducible exact ih0 _ _ _ _)
      | (with_reducible exact hawserref03_number.mono _ _ _)
      | (with_reducible exact LeO.refl _)
      | (with_reducible exact LeO.none _)
      | (with_reducible refine LeO.ite ?_ ?_)
      | (with_reducible refine LeO.bind ?_ (fun _ => ?_))
      | exact ih0 _ _ _ _
      | exact hawserref03_number.mono _ _ _
      | exact LeO.none _
      | refine LeO.ite ?_ ?_
      | refine LeO.bind ?_ (fun _ => ?_)
set_option maxHeartbeats 8000000 in
set_option maxRecDepth 100000 in
theorem hawserref03_upto.calls (k : Nat) (A0 : Option Addr) (c0 : Nat) (l0 : List Int) (a1 : Int) (a2 : Int) (r1 : Int) (r2 : Int) (r3 : Int) (w : World) (hr0 : Kd.C (Kd.int .u8) w A0 l0.length l0) (hc0 : l0.length ≤ c0) (h : hawserref03_upto.f k l0 a1 a2 = some (r1, r2, r3)) :
    Calls Try.prog 57 #[.slice A0 l0.length c0, .int .i64 a1, .int .i64 a2] w fun e w' => e = .returned (.tuple #[.int .i64 r1, .int .i64 r2, .int .i64 r3]) ∧ Drawn0 w w' := by
  have HR0 := A_ hr0
  have HC0 := A_ hc0
  clear hr0 hc0
  have H : (if a2 < 0 then (some (0, 0, 1)) else ((hawserref03_number.f k l0 a1).bind fun bt189 => (if bt189.2.2 = 0 then (hawserref03_upto.j0 k bt189.1 bt189.2.1 bt189.2.2 (decide (bt189.1 > (IntKind.u64.wrap (a2))))) else (hawserref03_upto.j0 k bt189.1 bt189.2.1 bt189.2.2 false)))) = some (r1, r2, r3) := h
  clear h
  by_cases c4 : a2 < 0
  · rw [if_pos c4] at H
    have c4b0 : decide (a2 < 0) = true := decide_eq_true c4
    clear c4
    simp only [Option.some.injEq, Prod.mk.injEq] at H
    obtain ⟨rfl, rfl, rfl⟩ := H
    go_enter Try.func57, Try.ntmps57
    go_wp2
    go_ret3
    exact ⟨by first | rfl | (simp; done) | (simp [*]; done), by repeat (first | exact Drawn0.refl _ | apply Drawn0.step)⟩
  · rw [if_neg c4] at H
    have c4b0 : decide (a2 < 0) = false := decide_eq_false c4
    clear c4
    replace H := Option.bind_eq_some_iff.mp H
    obtain ⟨⟨t189, t190, t191⟩, A50, H⟩ := H
    replace H : (if t191 = 0 then (hawserref03_upto.j0 k t189 t190 t191 (decide (t189 > (IntKind.u64.wrap (a2))))) else (hawserref03_upto.j0 k t189 t190 t191 false)) = some (r1, r2, r3) := H
    have A5 := A_ A50
    clear A50
    have HC6 := A_ H
    clear H
    go_enter Try.func57, Try.ntmps57
    go_upto_region 4 with (first | ((with_reducible refine gate_callee (f := 66) rfl ?_); refine goesL_ (some 17) rfl rfl Try.func66 (by kernel_rfl) rfl #[.slice A0 l0.length c0, .int .i64 a1] rfl (by (try simp only [List.map_toArray, List.map_cons, List.map_nil]); first | done | rfl | (simp only [List.length_drop, List.length_take]; rfl)) ?_; (with_reducible refine (hawserref03_number.calls k _ _ l0 a1 t189 t190 t191 _ ?side1 ?side2 A5.out).mono ?_); (case side1 => repeat (first | exact HR0.out | (with_reducible refine Kd.C_alloc ?_ _) | (with_reducible refine Kd.C_drewN ?_ _) | (with_reducible refine Kd.C_drew ?_))); (case side2 => exact HC0.out); rintro e w' ⟨rfl, ⟨nd, rfl⟩⟩; refine ⟨_, rfl, ?_⟩))
    (try simp only [Act.put, l1_, l2_, l3_])
    go_cut [28] (fun v28 wc => ∃ (kq : Nat) (x28_5 : Bool), v28 = .bool x28_5 ∧ Aside0 (hawserref03_upto.j0 kq t189 t190 t191 x28_5 = some (r1, r2, r3)) ∧ Aside0 (kq ≤ k) ∧ Drawn0 w wc)
    case first =>
      have H := HC6.out
      clear HC6
      by_cases c7 : t191 = 0
      · rw [if_pos c7] at H
        have c7b0 : (t191 == 0) = true := beq_iff_eq.mpr c7
        have c7b1 : (t191 != 0) = false := bne_eq_false_iff_eq.mpr c7
        clear c7
        (first | rw [c7b0] | (simp only [i64_w, i32_w]; rw [c7b0]) | rw [c7b1] | skip)
        have H' := A_ H
        clear H
        go_wp2
        go_meet
        case rel => exact ⟨_, (decide (t189 > (IntKind.u64.wrap (a2)))), (by first | rfl | (simp; done) | (simp [*]; done)), H', ⟨by first | omega | exact Nat.le_refl _⟩, by repeat (first | exact Drawn0.refl _ | apply Drawn0.step)⟩
      · rw [if_neg c7] at H
        have c7b0 : (t191 == 0) = false := beq_eq_false_iff_ne.mpr c7
        have c7b1 : (t191 != 0) = true := bne_iff_ne.mpr c7
        (first | rw [c7b0] | (simp only [i64_w, i32_w]; rw [c7b0]) | rw [c7b1] | skip)
        have H' := A_ H
        clear H
        go_wp2
        go_meet
        case rel => exact ⟨_, (false), (by first | rfl | (simp; done) | (simp [*]; done)), H', ⟨by first | omega | exact Nat.le_refl _⟩, by repeat (first | exact Drawn0.refl _ | apply Drawn0.step)⟩
    case rest =>
      clear HC6
      try clear p2
      try clear c4
      try clear c4b0
      try clear c5
      try clear c6
      try clear c7
      try clear c7b0
      try clear c7b1
      obtain ⟨kq, x28_5, rfl, HA, HJ5, ⟨mc5, rfl⟩⟩ := hcut
      cases kq with
      | zero => exact absurd HA.out (by simp [hawserref03_upto.j0])
      | succ kj5 =>
        have H := HA.out
        clear HA
        simp only [hawserref03_upto.j0] at H
        by_cases c8 : x28_5 = true
        · subst c8
          have H1 : (if 31 = 0 then (some (wrap64 (t189), t190, 0)) else (some (0, 0, 31))) = some (r1, r2, r3) := by rw [if_pos rfl] at H; exact H
          clear H
          have H := H1
          clear H1
          by_cases c9 : 31 = 0
          · exact absurd c9 (by decide)
          · rw [if_neg c9] at H
            have c9b0 : (31 == 0) = false := beq_eq_false_iff_ne.mpr c9
            have c9b1 : (31 != 0) = true := bne_iff_ne.mpr c9
            simp only [Option.some.injEq, Prod.mk.injEq] at H
            obtain ⟨rfl, rfl, rfl⟩ := H
            go_wp2
            go_ret3
            exact ⟨by first | rfl | (simp; done) | (simp [*]; done), by repeat (first | exact Drawn0.refl _ | apply Drawn0.step)⟩
        · replace c8 := Bool.eq_false_iff.mpr c8
          subst c8
          have H1 : (if t191 = 0 then (some (wrap64 (t189), t190, 0)) else (some (0, 0, t191))) = some (r1, r2, r3) := by rw [if_neg (show ¬ (false = true) by decide)] at H; exact H
          clear H
          have H := H1
          clear H1
          by_cases c10 : t191 = 0
          · rw [if_pos c10] at H
            have c10b0 : (t191 == 0) = true := beq_iff_eq.mpr c10
            have c10b1 : (t191 != 0) = false := bne_eq_false_iff_eq.mpr c10
            clear c10
            simp only [Option.some.injEq, Prod.mk.injEq] at H
            obtain ⟨rfl, rfl, rfl⟩ := H
            go_wp2
            go_ret3
            exact ⟨by first | rfl | (simp; done) | (simp [*]; done), by repeat (first | exact Drawn0.refl _ | apply Drawn0.step)⟩
          · rw [if_neg c10] at H
            have c10b0 : (t191 == 0) = false := beq_eq_false_iff_ne.mpr c10
            have c10b1 : (t191 != 0) = true := bne_iff_ne.mpr c10
            simp only [Option.some.injEq, Prod.mk.injEq] at H
            obtain ⟨rfl, rfl, rfl⟩ := H
            go_wp2
            go_ret3
            exact ⟨by first | rfl | (simp; done) | (simp [*]; done), by repeat (first | exact Drawn0.refl _ | apply Drawn0.step)⟩

/-! ### hawserref03_text: function 55 -/
def hawserref03_text.f (k : Nat) (l : List Int) (a most : Int) : Option (ByteArray × Int × Int) := (hawserref03_upto.f k l a most).bind fun t => if t.2.2 = 0 then (if (0 ≤ t.2.1 ∧ t.2.1 ≤ (l.length : Int)) ∧ (0 ≤ t.1 ∧ t.1 ≤ 2305843009213693952) ∧ l.length ≤ 1099511627776 then (if t.1 ≤ (l.length : Int) - t.2.1 then some (strOfNums ((l.take (t.2.1 + t.1).toNat).drop t.2.1.toNat), t.2.1 + t.1, 0) else some (⟨#[]⟩, 0, 30)) else none) else some (⟨#[]⟩, 0, t.2.2)
theorem hawserref03_text.mono : ∀ a0 a1 a2 k, LeO (hawserref03_text.f k a0 a1 a2) (hawserref03_text.f (k + 1) a0 a1 a2) := fun a0 a1 a2 k => LeO.bind (hawserref03_upto.mono _ _ _ _) fun _ => LeO.refl _
set_option maxHeartbeats 1000000 in
set_option maxRecDepth 100000 in
theorem hawserref03_text.calls (k : Nat) (A0 : Option Addr) (c0 : Nat) (l0 : List Int) (a1 : Int) (a2 : Int) (r1 : ByteArray) (r2 : Int) (r3 : Int) (w : World) (hr0 : Kd.C (Kd.int .u8) w A0 l0.length l0) (hc0 : l0.length ≤ c0) (h : hawserref03_text.f k l0 a1 a2 = some (r1, r2, r3)) :
    Calls Try.prog 55 #[.slice A0 l0.length c0, .int .i64 a1, .int .i64 a2] w fun e w' => e = .returned (.tuple #[.string r1, .int .i64 r2, .int .i64 r3]) ∧ Drawn0 w w' := by
  unfold hawserref03_text.f at h
  obtain ⟨⟨n, at_, e⟩, hu, h⟩ := Option.bind_eq_some_iff.1 h
  simp only at h
  have HU := Aside0.mk (hawserref03_upto.calls k A0 c0 l0 a1 a2 n at_ e w hr0 hc0 hu)
  have HC := Aside0.mk hr0
  have HL := Aside0.mk hc0
  clear hr0 hc0 hu
  by_cases he : e = 0
  · subst he
    rw [if_pos rfl] at h
    split at h
    case isFalse => cases h
    rename_i hc
    obtain ⟨⟨h1, h2⟩, ⟨h3, h4⟩, h5⟩ := hc
    have hw1 : IntKind.i64.wrap ((l0.length : Int) - at_) = (l0.length : Int) - at_ := IntWalk.i64_in _ (by omega)
    have hw2 : IntKind.i64.wrap (at_ + n) = at_ + n := IntWalk.i64_in _ (by omega)
    by_cases hle : n ≤ (l0.length : Int) - at_
    · rw [if_pos hle] at h
      simp only [Option.some.injEq, Prod.mk.injEq] at h
      obtain ⟨rfl, rfl, rfl⟩ := h
      have hle' : decide ((l0.length : Int) - at_ < n) = false := decide_eq_false (by omega)
      obtain ⟨m, rfl⟩ : ∃ m : Nat, at_ = m := ⟨at_.toNat, by omega⟩
      obtain ⟨j, rfl⟩ : ∃ j : Nat, n = j := ⟨n.toNat, by omega⟩
      obtain ⟨i018, hi018, _, hsz18, _⟩ := info_parts info5
      obtain ⟨A18, hcut18, hA18, hC18⟩ := print_mid_of (P := Try.prog) (Value.int .u8) 0 30 5 .i64 .i64 Try.underlying30 hi018 hsz18 A0 c0 l0 (m : Int) ((m : Int) + j) (by omega) (by omega) (by omega) HL.out
      have HR217 := Kd.C_of_reads (h1 := fun _ => rfl) (hA18 _ (Kd.reads_of_C HC.out))
      have e1 : ((m : Int) + j).toNat = m + j := by omega
      have e2 : ((m : Int)).toNat = m := Int.toNat_natCast _
      have e3 : ((l0.take (m + j)).drop m).length = j := by rw [List.length_drop, List.length_take]; omega
      rw [e1, e2] at HR217 ⊢
      rw [e3] at HR217
      rw [e1, e2, e3] at hcut18
      have hcv19 := fun q => Kd.C_string (P := Try.prog) (A := A18) (c := (c0 - m)) Try.underlying30 Try.underlying5 Try.underlying9 (Kd.C_drewN HR217 q)
      clear e1 e2 e3 hA18 hC18 hi018 hsz18 HR217
      go_enter Try.func55, Try.ntmps55
      go_wp2_with (first | (go_at_call 57; refine HU.out.mono ?_; rintro r w1 ⟨rfl, ⟨q, hq⟩⟩; subst hq) | fail)
      go_ret3
      exact ⟨rfl, ⟨_, rfl⟩⟩
    · rw [if_neg hle] at h
      simp only [Option.some.injEq, Prod.mk.injEq] at h
      obtain ⟨rfl, rfl, rfl⟩ := h
      have hle' : decide ((l0.length : Int) - at_ < n) = true := decide_eq_true (by omega)
      go_enter Try.func55, Try.ntmps55
      go_wp2_with (first | (go_at_call 57; refine HU.out.mono ?_; rintro r w1 ⟨rfl, ⟨q, hq⟩⟩; subst hq) | fail)
      go_ret3
      exact ⟨rfl, ⟨_, rfl⟩⟩
  · rw [if_neg he] at h
    simp only [Option.some.injEq, Prod.mk.injEq] at h
    obtain ⟨rfl, rfl, rfl⟩ := h
    have be : (e == 0) = false := by simpa using he
    have be' : (e != 0) = true := by simpa using he
    go_enter Try.func55, Try.ntmps55
    go_wp2_with (first | (go_at_call 57; refine HU.out.mono ?_; rintro r w1 ⟨rfl, ⟨q, hq⟩⟩; subst hq) | fail)
    go_ret3
    exact ⟨rfl, ⟨_, rfl⟩⟩

-- NOT PRINTED: function 65 (hawserref03_Reader_Fail)

-- NOT PRINTED: function 56 (hawserref03_Reader_done)

-- NOT PRINTED: function 36 (hawserref03_Reader_Text)

-- NOT PRINTED: function 37 (hawserref03_Reader_Int)

-- NOT PRINTED: function 38 (hawserref03_Reader_End)

end Go.Proofs.Ytkkmceejfmjidaa.G
