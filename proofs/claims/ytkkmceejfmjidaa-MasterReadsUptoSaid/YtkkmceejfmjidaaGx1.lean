-- Written for this claim by a program of this session (wip/xprint.py), by means of the kit's print. Not trusted: Lean checks it.
import Derived.Test.YtkkmceejfmjidaaGx0
namespace Go.Proofs.Ytkkmceejfmjidaa.G
open Go.RowKit Go.Proofs.YtkkmceejfmjidaaW.PrintWords Go.Proofs.YtkkmceejfmjidaaW.PrintLast Go.Proofs.YtkkmceejfmjidaaW.PrintMore
attribute [local go_sem] max2_int min2_int max_two min_two max_three min_three max_four min_four   -- for this text's walks alone
set_option linter.unusedVariables false
set_option linter.unusedSimpArgs false

/-! ### leb_Decode: function 62 -/
mutual
def leb_Decode.l0 : Nat → List Int → Int → List Int → Int → Int → Option (Int × Int × Int)
  | 0, _, _, _, _, _ => none
  | k + 1, x0, x5, x8, x9, x10 => if x10 < x9 then (if 0 ≤ x10 then (if x10 < (x8.length : Int) then (if x10 = 10 then (if (x0.length : Int) < 10 then (some (0, 0, 10)) else (some (0, 0, 11))) else (if (rd x8 x10) ≥ 128 then (if 0 ≤ (wrap64 (7 * x10)) then (leb_Decode.l0 k x0 (Go.bits .or .u64 x5 (shl .u64 (IntKind.u64.wrap (Go.bits .and .u8 (rd x8 x10) 127)) (wrap64 (7 * x10)))) x8 x9 (wrap64 (x10 + 1))) else (none)) else (if x10 = 9 then (leb_Decode.j1 k x5 x10 (rd x8 x10) (decide ((rd x8 x10) > 1))) else (leb_Decode.j1 k x5 x10 (rd x8 x10) false)))) else (none)) else (none)) else (if (x0.length : Int) < 10 then (some (0, 0, 10)) else (some (0, 0, 11)))
def leb_Decode.j1 : Nat → Int → Int → Int → Bool → Option (Int × Int × Int)
  | 0, _, _, _, _ => none
  | k + 1, x5, x6, x7, x27 => if x27 = true then (some (0, 0, 11)) else (if x6 > 0 then (if x7 = 0 then (some (0, 0, 12)) else (if 0 ≤ (wrap64 (7 * x6)) then (some (Go.bits .or .u64 x5 (shl .u64 (IntKind.u64.wrap (x7)) (wrap64 (7 * x6))), wrap64 (x6 + 1), 0)) else (none))) else (if 0 ≤ (wrap64 (7 * x6)) then (some (Go.bits .or .u64 x5 (shl .u64 (IntKind.u64.wrap (x7)) (wrap64 (7 * x6))), wrap64 (x6 + 1), 0)) else (none)))
end
def leb_Decode.f (k : Nat) (l0 : List Int) : Option (Int × Int × Int) := leb_Decode.l0 k l0 0 l0 (l0.length : Int) 0
theorem leb_Decode.mono_l : ∀ k, (∀ y0 y1 y2 y3 y4, LeO (leb_Decode.l0 k y0 y1 y2 y3 y4) (leb_Decode.l0 (k + 1) y0 y1 y2 y3 y4)) ∧ (∀ y0 y1 y2 y3, LeO (leb_Decode.j1 k y0 y1 y2 y3) (leb_Decode.j1 (k + 1) y0 y1 y2 y3))
  | 0 => ⟨fun _ _ _ _ _ r h => by simp [leb_Decode.l0] at h, fun _ _ _ _ r h => by simp [leb_Decode.j1] at h⟩
  | k + 1 => by
    obtain ⟨ih0, ih1⟩ := leb_Decode.mono_l k
    refine ⟨?_, ?_⟩
    · intro y0 y1 y2 y3 y4
      unfold leb_Decode.l0
      repeat' first
      | (with_reducible exact ih0 _ _ _ _ _)
      | (with_reducible exact ih1 _ _ _ _)
      | (with_reducible exact LeO.refl _)
      | (with_reducible exact LeO.none _)
      | (with_reducible refine LeO.ite ?_ ?_)
      | (with_reducible refine LeO.bind ?_ (fun _ => ?_))
      | exact ih0 _ _ _ _ _
      | exact ih1 _ _ _ _
      | exact LeO.none _
      | refine LeO.ite ?_ ?_
      | refine LeO.bind ?_ (fun _ => ?_)
    · intro y0 y1 y2 y3
      unfold leb_Decode.j1
      repeat' first
      | (with_reducible exact ih0 _ _ _ _ _)
      | (with_reducible exact ih1 _ _ _ _)
      | (with_reducible exact LeO.refl _)
      | (with_reducible exact LeO.none _)
      | (with_reducible refine LeO.ite ?_ ?_)
      | (with_reducible refine LeO.bind ?_ (fun _ => ?_))
      | exact ih0 _ _ _ _ _
      | exact ih1 _ _ _ _
      | exact LeO.none _
      | refine LeO.ite ?_ ?_
      | refine LeO.bind ?_ (fun _ => ?_)
theorem leb_Decode.mono : ∀ a0 k, LeO (leb_Decode.f k a0) (leb_Decode.f (k + 1) a0) := by
  intro a0 k
  obtain ⟨ih0, ih1⟩ := leb_Decode.mono_l k
  unfold leb_Decode.f
  repeat' first
      | (with_reducible exact ih0 _ _ _ _ _)
      | (with_reducible exact ih1 _ _ _ _)
      | (with_reducible exact LeO.refl _)
      | (with_reducible exact LeO.none _)
      | (with_reducible refine LeO.ite ?_ ?_)
      | (with_reducible refine LeO.bind ?_ (fun _ => ?_))
      | exact ih0 _ _ _ _ _
      | exact ih1 _ _ _ _
      | exact LeO.none _
      | refine LeO.ite ?_ ?_
      | refine LeO.bind ?_ (fun _ => ?_)
set_option maxHeartbeats 8000000 in
set_option maxRecDepth 100000 in
theorem leb_Decode.calls (k : Nat) (A0 : Option Addr) (c0 : Nat) (l0 : List Int) (r1 : Int) (r2 : Int) (r3 : Int) (w : World) (hr0 : Kd.C (Kd.int .u8) w A0 l0.length l0) (hc0 : l0.length ≤ c0) (h : leb_Decode.f k l0 = some (r1, r2, r3)) :
    Calls Try.prog 62 #[.slice A0 l0.length c0] w fun e w' => e = .returned (.tuple #[.int .u64 r1, .int .i64 r2, .int .i64 r3]) ∧ Drawn0 w w' := by
  have HR0 := A_ hr0
  have HC0 := A_ hc0
  clear hr0 hc0
  have H : (leb_Decode.l0 k l0 0 l0 (l0.length : Int) 0) = some (r1, r2, r3) := h
  clear h
  have H' := A_ H
  clear H
  go_enter Try.func62, Try.ntmps62
  go_wp2
  go_loopg [5, 10] k (fun kq v5 v10 w' => ∃ (x5_1 : Int) (x10_1 : Int), v5 = .int .u64 x5_1 ∧ v10 = .int .i64 x10_1 ∧ Aside0 (leb_Decode.l0 kq l0 x5_1 l0 (l0.length : Int) x10_1 = some (r1, r2, r3)) ∧ Aside0 (kq ≤ k) ∧ Drawn0 w w')
  case atStart => exact ⟨(0), (0), (by first | rfl | (simp; done) | (simp [*]; done)), (by first | rfl | (simp; done) | (simp [*]; done)), H', ⟨Nat.le_refl _⟩, by repeat (first | exact Drawn0.refl _ | apply Drawn0.step)⟩
  case round =>
    clear H'
    obtain ⟨x5_1, x10_1, rfl, rfl, HA, HK1, ⟨m1, rfl⟩⟩ := hrel
    cases gk with
    | zero => exact absurd HA.out (by simp [leb_Decode.l0])
    | succ k1 =>
      have H := HA.out
      clear HA
      simp only [leb_Decode.l0] at H
      by_cases c2 : x10_1 < (l0.length : Int)
      · rw [if_pos c2] at H
        have c2b0 : decide (x10_1 < (l0.length : Int)) = true := decide_eq_true c2
        clear c2
        by_cases c3 : 0 ≤ x10_1
        · rw [if_pos c3] at H
          have c3b0 : decide (0 ≤ x10_1) = true := decide_eq_true c3
          clear c3
          by_cases c4 : x10_1 < (l0.length : Int)
          · rw [if_pos c4] at H
            have c4b0 : decide (x10_1 < (l0.length : Int)) = true := decide_eq_true c4
            clear c4
            by_cases c5 : x10_1 = 10
            · rw [if_pos c5] at H
              have c5b0 : (x10_1 == 10) = true := beq_iff_eq.mpr c5
              have c5b1 : (x10_1 != 10) = false := bne_eq_false_iff_eq.mpr c5
              clear c5
              by_cases c6 : (l0.length : Int) < 10
              · rw [if_pos c6] at H
                have c6b0 : decide ((l0.length : Int) < 10) = true := decide_eq_true c6
                have c6b1 : decide (l0.length < 10) = true := decide_eq_true (by omega)
                clear c6
                simp only [Option.some.injEq, Prod.mk.injEq] at H
                obtain ⟨rfl, rfl, rfl⟩ := H
                have p101 : 0 ≤ (x10_1 : Int) := of_decide_eq_true (by first | (with_reducible assumption) | assumption)
                have q101 : x10_1 < (l0.length : Int) := of_decide_eq_true (by first | (with_reducible assumption) | assumption)
                obtain ⟨ad101, e101, hx101_0⟩ := Kd.at_int HR0.out x10_1 p101 q101
                cases e101
                replace p101 := eq_true p101
                replace q101 := eq_true q101
                go_wp2
                go_ret3
                exact ⟨by first | rfl | (simp; done) | (simp [*]; done), by repeat (first | exact Drawn0.refl _ | apply Drawn0.step)⟩
              · rw [if_neg c6] at H
                have c6b0 : decide ((l0.length : Int) < 10) = false := decide_eq_false c6
                have c6b1 : decide (l0.length < 10) = false := decide_eq_false (by omega)
                clear c6
                simp only [Option.some.injEq, Prod.mk.injEq] at H
                obtain ⟨rfl, rfl, rfl⟩ := H
                have p101 : 0 ≤ (x10_1 : Int) := of_decide_eq_true (by first | (with_reducible assumption) | assumption)
                have q101 : x10_1 < (l0.length : Int) := of_decide_eq_true (by first | (with_reducible assumption) | assumption)
                obtain ⟨ad101, e101, hx101_0⟩ := Kd.at_int HR0.out x10_1 p101 q101
                cases e101
                replace p101 := eq_true p101
                replace q101 := eq_true q101
                go_wp2
                go_ret3
                exact ⟨by first | rfl | (simp; done) | (simp [*]; done), by repeat (first | exact Drawn0.refl _ | apply Drawn0.step)⟩
            · rw [if_neg c5] at H
              have c5b0 : (x10_1 == 10) = false := beq_eq_false_iff_ne.mpr c5
              have c5b1 : (x10_1 != 10) = true := bne_iff_ne.mpr c5
              by_cases c7 : (rd l0 x10_1) ≥ 128
              · rw [if_pos c7] at H
                have c7b0 : decide (128 ≤ (rd l0 x10_1)) = true := decide_eq_true c7
                clear c7
                obtain ⟨ji8, hji8⟩ : ∃ j_ : Int, (wrap64 (7 * x10_1)) = j_ := ⟨_, rfl⟩
                replace H : (if 0 ≤ (ji8) then (leb_Decode.l0 k1 l0 (Go.bits .or .u64 x5_1 (shl .u64 (IntKind.u64.wrap (Go.bits .and .u8 (rd l0 x10_1) 127)) (ji8))) l0 (l0.length : Int) (wrap64 (x10_1 + 1))) else (none)) = some (r1, r2, r3) := by first | (rw [hji8] at H; exact H) | (simp only [hji8] at H ⊢; exact H)
                have hji8w : (IntKind.i64.wrap (7 * x10_1)) = ji8 := (i64_w _).trans hji8
                by_cases c9 : 0 ≤ (ji8)
                · rw [if_pos c9] at H
                  have c9b0 := eq_true c9
                  have c9b1 : decide (0 ≤ (ji8)) = true := decide_eq_true c9
                  clear c9
                  obtain ⟨ji10, hji10⟩ : ∃ j_ : Int, (shl .u64 (IntKind.u64.wrap (Go.bits .and .u8 (rd l0 x10_1) 127)) (ji8)) = j_ := ⟨_, rfl⟩
                  replace H : (leb_Decode.l0 k1 l0 (Go.bits .or .u64 x5_1 (ji10)) l0 (l0.length : Int) (wrap64 (x10_1 + 1))) = some (r1, r2, r3) := by first | (rw [hji10] at H; exact H) | (simp only [hji10] at H ⊢; exact H)
                  have hji10_ : (IntKind.u64.wrap ((IntKind.u64.wrap (Go.bits .and .u8 (rd l0 x10_1) 127)) * 2 ^ min (ji8).toNat 64)) = ji10 := hji10
                  have hji10z : (ji8) ≤ 64 → (IntKind.u64.wrap ((IntKind.u64.wrap (Go.bits .and .u8 (rd l0 x10_1) 127)) * 2 ^ (ji8).toNat)) = ji10 := shl_small hji10
                  have H' := A_ H
                  clear H
                  have p101 : 0 ≤ (x10_1 : Int) := of_decide_eq_true (by first | (with_reducible assumption) | assumption)
                  have q101 : x10_1 < (l0.length : Int) := of_decide_eq_true (by first | (with_reducible assumption) | assumption)
                  obtain ⟨ad101, e101, hx101_0⟩ := Kd.at_int HR0.out x10_1 p101 q101
                  cases e101
                  replace p101 := eq_true p101
                  replace q101 := eq_true q101
                  go_wp2
                  go_roundg k1
                  case measure => have := HK1.out; omega
                  case rel => exact ⟨(Go.bits .or .u64 x5_1 (ji10)), (wrap64 (x10_1 + 1)), (by first | rfl | (simp; done) | (simp only [← hji10] <;> (first | rfl | simp)) | (simp [*]; done)), (by first | rfl | (simp; done) | (simp [*]; done)), H', ⟨by have := HK1.out; omega⟩, by repeat (first | exact Drawn0.refl _ | apply Drawn0.step)⟩
                · rw [if_neg c9] at H
                  exact absurd H (by simp)
              · rw [if_neg c7] at H
                have c7b0 : decide (128 ≤ (rd l0 x10_1)) = false := decide_eq_false c7
                clear c7
                have HC11 := A_ H
                clear H
                have p101 : 0 ≤ (x10_1 : Int) := of_decide_eq_true (by first | (with_reducible assumption) | assumption)
                have q101 : x10_1 < (l0.length : Int) := of_decide_eq_true (by first | (with_reducible assumption) | assumption)
                obtain ⟨ad101, e101, hx101_0⟩ := Kd.at_int HR0.out x10_1 p101 q101
                cases e101
                replace p101 := eq_true p101
                replace q101 := eq_true q101
                go_upto_region 8 with (fail)
                go_cut [27] (fun v27 wc => ∃ (kq : Nat) (x27_10 : Bool), v27 = .bool x27_10 ∧ Aside0 (leb_Decode.j1 kq x5_1 x10_1 (rd l0 x10_1) x27_10 = some (r1, r2, r3)) ∧ Aside0 (kq ≤ k1) ∧ Drawn0 w wc)
                case first =>
                  have H := HC11.out
                  clear HC11
                  by_cases c12 : x10_1 = 9
                  · rw [if_pos c12] at H
                    have c12b0 : (x10_1 == 9) = true := beq_iff_eq.mpr c12
                    have c12b1 : (x10_1 != 9) = false := bne_eq_false_iff_eq.mpr c12
                    clear c12
                    (first | rw [c12b0] | (simp only [i64_w, i32_w]; rw [c12b0]) | rw [c12b1] | skip)
                    have H' := A_ H
                    clear H
                    go_wp2
                    go_meet
                    case rel => exact ⟨_, (decide ((rd l0 x10_1) > 1)), (by first | rfl | (simp; done) | (simp [*]; done)), H', ⟨by have := HK1.out; first | omega | exact Nat.le_refl _⟩, by repeat (first | exact Drawn0.refl _ | apply Drawn0.step)⟩
                  · rw [if_neg c12] at H
                    have c12b0 : (x10_1 == 9) = false := beq_eq_false_iff_ne.mpr c12
                    have c12b1 : (x10_1 != 9) = true := bne_iff_ne.mpr c12
                    (first | rw [c12b0] | (simp only [i64_w, i32_w]; rw [c12b0]) | rw [c12b1] | skip)
                    have H' := A_ H
                    clear H
                    go_wp2
                    go_meet
                    case rel => exact ⟨_, (false), (by first | rfl | (simp; done) | (simp [*]; done)), H', ⟨by have := HK1.out; first | omega | exact Nat.le_refl _⟩, by repeat (first | exact Drawn0.refl _ | apply Drawn0.step)⟩
                case rest =>
                  clear HC11
                  try clear c1
                  try clear p1
                  try clear q1
                  try clear hx1
                  try clear c2
                  try clear c2b0
                  try clear p2
                  try clear c3
                  try clear c3b0
                  try clear c4
                  try clear c4b0
                  try clear c5
                  try clear c5b0
                  try clear c5b1
                  try clear c6
                  try clear c6b0
                  try clear c6b1
                  try clear p6
                  try clear c7
                  try clear c7b0
                  try clear c9
                  try clear c9b0
                  try clear c9b1
                  try clear p10
                  try clear q10
                  try clear hx10
                  try clear c12
                  try clear c12b0
                  try clear c12b1
                  try clear hx101_0
                  try clear p101
                  try clear q101
                  obtain ⟨kq, x27_10, rfl, HA, HJ10, ⟨mc10, rfl⟩⟩ := hcut
                  cases kq with
                  | zero => exact absurd HA.out (by simp [leb_Decode.j1])
                  | succ kj10 =>
                    have H := HA.out
                    clear HA
                    simp only [leb_Decode.j1] at H
                    by_cases c13 : x27_10 = true
                    · subst c13
                      have H1 : (some (0, 0, 11)) = some (r1, r2, r3) := by rw [if_pos rfl] at H; exact H
                      clear H
                      have H := H1
                      clear H1
                      simp only [Option.some.injEq, Prod.mk.injEq] at H
                      obtain ⟨rfl, rfl, rfl⟩ := H
                      go_wp2
                      go_ret3
                      exact ⟨by first | rfl | (simp; done) | (simp [*]; done), by repeat (first | exact Drawn0.refl _ | apply Drawn0.step)⟩
                    · replace c13 := Bool.eq_false_iff.mpr c13
                      subst c13
                      have H1 : (if x10_1 > 0 then (if (rd l0 x10_1) = 0 then (some (0, 0, 12)) else (if 0 ≤ (wrap64 (7 * x10_1)) then (some (Go.bits .or .u64 x5_1 (shl .u64 (IntKind.u64.wrap ((rd l0 x10_1))) (wrap64 (7 * x10_1))), wrap64 (x10_1 + 1), 0)) else (none))) else (if 0 ≤ (wrap64 (7 * x10_1)) then (some (Go.bits .or .u64 x5_1 (shl .u64 (IntKind.u64.wrap ((rd l0 x10_1))) (wrap64 (7 * x10_1))), wrap64 (x10_1 + 1), 0)) else (none))) = some (r1, r2, r3) := by rw [if_neg (show ¬ (false = true) by decide)] at H; exact H
                      clear H
                      have H := H1
                      clear H1
                      by_cases c14 : x10_1 > 0
                      · rw [if_pos c14] at H
                        have c14b0 : decide (0 < x10_1) = true := decide_eq_true c14
                        clear c14
                        by_cases c15 : (rd l0 x10_1) = 0
                        · rw [if_pos c15] at H
                          have c15b0 : ((rd l0 x10_1) == 0) = true := beq_iff_eq.mpr c15
                          have c15b1 : ((rd l0 x10_1) != 0) = false := bne_eq_false_iff_eq.mpr c15
                          clear c15
                          simp only [Option.some.injEq, Prod.mk.injEq] at H
                          obtain ⟨rfl, rfl, rfl⟩ := H
                          go_wp2
                          go_ret3
                          exact ⟨by first | rfl | (simp; done) | (simp [*]; done), by repeat (first | exact Drawn0.refl _ | apply Drawn0.step)⟩
                        · rw [if_neg c15] at H
                          have c15b0 : ((rd l0 x10_1) == 0) = false := beq_eq_false_iff_ne.mpr c15
                          have c15b1 : ((rd l0 x10_1) != 0) = true := bne_iff_ne.mpr c15
                          obtain ⟨ji16, hji16⟩ : ∃ j_ : Int, (wrap64 (7 * x10_1)) = j_ := ⟨_, rfl⟩
                          replace H : (if 0 ≤ (ji16) then (some (Go.bits .or .u64 x5_1 (shl .u64 (IntKind.u64.wrap ((rd l0 x10_1))) (ji16)), wrap64 (x10_1 + 1), 0)) else (none)) = some (r1, r2, r3) := by first | (rw [hji16] at H; exact H) | (simp only [hji16] at H ⊢; exact H)
                          have hji16w : (IntKind.i64.wrap (7 * x10_1)) = ji16 := (i64_w _).trans hji16
                          by_cases c17 : 0 ≤ (ji16)
                          · rw [if_pos c17] at H
                            have c17b0 := eq_true c17
                            have c17b1 : decide (0 ≤ (ji16)) = true := decide_eq_true c17
                            clear c17
                            obtain ⟨ji18, hji18⟩ : ∃ j_ : Int, (shl .u64 (IntKind.u64.wrap ((rd l0 x10_1))) (ji16)) = j_ := ⟨_, rfl⟩
                            replace H : (some (Go.bits .or .u64 x5_1 (ji18), wrap64 (x10_1 + 1), 0)) = some (r1, r2, r3) := by first | (rw [hji18] at H; exact H) | (simp only [hji18] at H ⊢; exact H)
                            have hji18_ : (IntKind.u64.wrap ((IntKind.u64.wrap ((rd l0 x10_1))) * 2 ^ min (ji16).toNat 64)) = ji18 := hji18
                            have hji18z : (ji16) ≤ 64 → (IntKind.u64.wrap ((IntKind.u64.wrap ((rd l0 x10_1))) * 2 ^ (ji16).toNat)) = ji18 := shl_small hji18
                            simp only [Option.some.injEq, Prod.mk.injEq] at H
                            obtain ⟨rfl, rfl, rfl⟩ := H
                            go_wp2
                            go_ret3
                            exact ⟨by first | rfl | (simp; done) | (simp only [← hji16, ← hji18] <;> (first | rfl | simp)) | (simp [*]; done), by repeat (first | exact Drawn0.refl _ | apply Drawn0.step)⟩
                          · rw [if_neg c17] at H
                            exact absurd H (by simp)
                      · rw [if_neg c14] at H
                        have c14b0 : decide (0 < x10_1) = false := decide_eq_false c14
                        clear c14
                        obtain ⟨ji19, hji19⟩ : ∃ j_ : Int, (wrap64 (7 * x10_1)) = j_ := ⟨_, rfl⟩
                        replace H : (if 0 ≤ (ji19) then (some (Go.bits .or .u64 x5_1 (shl .u64 (IntKind.u64.wrap ((rd l0 x10_1))) (ji19)), wrap64 (x10_1 + 1), 0)) else (none)) = some (r1, r2, r3) := by first | (rw [hji19] at H; exact H) | (simp only [hji19] at H ⊢; exact H)
                        have hji19w : (IntKind.i64.wrap (7 * x10_1)) = ji19 := (i64_w _).trans hji19
                        by_cases c20 : 0 ≤ (ji19)
                        · rw [if_pos c20] at H
                          have c20b0 := eq_true c20
                          have c20b1 : decide (0 ≤ (ji19)) = true := decide_eq_true c20
                          clear c20
                          obtain ⟨ji21, hji21⟩ : ∃ j_ : Int, (shl .u64 (IntKind.u64.wrap ((rd l0 x10_1))) (ji19)) = j_ := ⟨_, rfl⟩
                          replace H : (some (Go.bits .or .u64 x5_1 (ji21), wrap64 (x10_1 + 1), 0)) = some (r1, r2, r3) := by first | (rw [hji21] at H; exact H) | (simp only [hji21] at H ⊢; exact H)
                          have hji21_ : (IntKind.u64.wrap ((IntKind.u64.wrap ((rd l0 x10_1))) * 2 ^ min (ji19).toNat 64)) = ji21 := hji21
                          have hji21z : (ji19) ≤ 64 → (IntKind.u64.wrap ((IntKind.u64.wrap ((rd l0 x10_1))) * 2 ^ (ji19).toNat)) = ji21 := shl_small hji21
                          simp only [Option.some.injEq, Prod.mk.injEq] at H
                          obtain ⟨rfl, rfl, rfl⟩ := H
                          go_wp2
                          go_ret3
                          exact ⟨by first | rfl | (simp; done) | (simp only [← hji19, ← hji21] <;> (first | rfl | simp)) | (simp [*]; done), by repeat (first | exact Drawn0.refl _ | apply Drawn0.step)⟩
                        · rw [if_neg c20] at H
                          exact absurd H (by simp)
          · rw [if_neg c4] at H
            exact absurd H (by simp)
        · rw [if_neg c3] at H
          exact absurd H (by simp)
      · rw [if_neg c2] at H
        have c2b0 : decide (x10_1 < (l0.length : Int)) = false := decide_eq_false c2
        clear c2
        by_cases c22 : (l0.length : Int) < 10
        · rw [if_pos c22] at H
          have c22b0 : decide ((l0.length : Int) < 10) = true := decide_eq_true c22
          have c22b1 : decide (l0.length < 10) = true := decide_eq_true (by omega)
          clear c22
          simp only [Option.some.injEq, Prod.mk.injEq] at H
          obtain ⟨rfl, rfl, rfl⟩ := H
          go_wp2
          go_ret3
          exact ⟨by first | rfl | (simp; done) | (simp [*]; done), by repeat (first | exact Drawn0.refl _ | apply Drawn0.step)⟩
        · rw [if_neg c22] at H
          have c22b0 : decide ((l0.length : Int) < 10) = false := decide_eq_false c22
          have c22b1 : decide (l0.length < 10) = false := decide_eq_false (by omega)
          clear c22
          simp only [Option.some.injEq, Prod.mk.injEq] at H
          obtain ⟨rfl, rfl, rfl⟩ := H
          go_wp2
          go_ret3
          exact ⟨by first | rfl | (simp; done) | (simp [*]; done), by repeat (first | exact Drawn0.refl _ | apply Drawn0.step)⟩

/-! ### config_places: function 46 -/
open Go.Proofs.Ytkkmceejfmjidaa.Blocks
def plc : List Int → Nat → List Int → Option (List Int)
  | [], _, a => some a
  | n :: l, i, a => if n < 1 ∨ 8 < n ∨ 0 < a.getD n.toNat 0 then none else plc l (i + 1) (a.set n.toNat ((i : Int) + 1))
def zeros9 : List Int := [0, 0, 0, 0, 0, 0, 0, 0, 0]
def plcRes (l : List Int) : Value := match plc l 0 zeros9 with
  | some a => .tuple #[.agg (nums .i64 a).toArray, .bool true]
  | none => .tuple #[.agg (nums .i64 zeros9).toArray, .bool false]
theorem results_cell_tmp {P : Program} {fn : Func} {p q : Tmp} {ty : TypeId} (h : fn.results = #[.cell p ty, .tmp q]) (tmps : Array Value) (w : World) (g : Nat) (t : TypeId) (cs : Array Value) (fr : Nat × Nat) (d : TypeDesc)
    (hp : tmps.getD p undef = .pointer (some ⟨g, 0, none⟩)) (hg : w.heap[g]? = some (.cells cs t fr))
    (hu : P.underlying ty = some d) (hd : (match d with | .struct _ | .array _ _ => true | _ => false) = true) (hi : (P.info? ty).map (·.size) = some cs.size) (v : Value) (hv : tmps.getD q undef = v) :
    (results fn tmps).run P w = .ok (.tuple #[.agg cs, v]) w := by
  have hp' : tmps[p]?.getD undef = .pointer (some ⟨g, 0, none⟩) := by simpa using hp
  have hv' : tmps[q]?.getD undef = v := by simpa using hv
  simp [results, h, hp', hv', asAddr, run_loadVar_row w g t ty cs fr d hg hu hd hi]
theorem nine {a : List Int} (h : a.length = 9) : ∃ a0 a1 a2 a3 a4 a5 a6 a7 a8, a = [a0, a1, a2, a3, a4, a5, a6, a7, a8] := by
  match a, h with
  | [a0, a1, a2, a3, a4, a5, a6, a7, a8], _ => exact ⟨_, _, _, _, _, _, _, _, _, rfl⟩
theorem nums_at (k : IntKind) (a : List Int) (i : Nat) (h : i < a.length) : (nums k a).toArray[i]? = some (.int k (a.getD i 0)) := by
  simp [nums, List.getElem?_eq_getElem h, List.getD_eq_getElem?_getD]
set_option maxHeartbeats 3200000 in
theorem places_walk (A0 : Option Addr) (c0 : Nat) (l0 : List Int) (w : World) (hr0 : Kd.C (Kd.int .i64) w A0 l0.length l0) (hc0 : l0.length ≤ c0) (hn : l0.length ≤ 1099511627776) :
    Calls Try.prog 46 #[.slice A0 l0.length c0] w fun e w' => e = .returned (plcRes l0) ∧ Below w.heap.size w w' := by
  have HR0 := Aside0.mk hr0
  have HC0 := Aside0.mk hc0
  clear hr0 hc0
  have hu67 := Try.underlying89
  go_enter Try.func46, Try.ntmps46
  go_wp2
  go_loopw [9] (fun v wr => ∃ (k : Nat) (a : List Int), k ≤ l0.length ∧ v = .int .i64 k ∧ a.length = 9 ∧ Hid (plc l0 0 zeros9 = plc (l0.drop k) k a) ∧ Hid (wr.heap[w.heap.size]? = some (.cells (nums .i64 zeros9).toArray 89 (0, 0))) ∧ Hid (wr.heap[w.heap.size + 1]? = some (.cells (nums .i64 a).toArray 89 (0, 0))) ∧ Below w.heap.size w wr) (fun v _ => l0.length - (intOf v).toNat)
  case atStart =>
    refine ⟨0, zeros9, by omega, rfl, rfl, rfl, ?_, ?_, ((Below.refl _ _).alloc (Nat.le_refl _) _).alloc (by simp) _⟩
    · show ((w.alloc _).alloc _).heap[w.heap.size]? = _
      rw [Below.heap_alloc _ _ _ (by simp), heap_alloc_new]
      rfl
    · have := heap_alloc_new (w.alloc (.cells (nums .i64 zeros9).toArray 89)) (.cells (nums .i64 zeros9).toArray 89)
      rw [World.size_alloc] at this
      exact this
  case round =>
    obtain ⟨k, a, hk, rfl, ha, hp, hz, hh, hb⟩ := hrel
    have HSZ : Hid ((Try.prog.info? 89).map (·.size) = some 9) := by show (Try.prog.info? 89).map (·.size) = some 9; kernel_rfl
    have HU : Hid (Try.prog.underlying 89 = some (.array 9 3)) := hu67
    by_cases hlt : k < l0.length
    · obtain ⟨n, hn'⟩ : ∃ n, n = rd l0 k := ⟨_, rfl⟩
      obtain ⟨ad, e, hcell⟩ := Kd.at_int (Kd.C_below HR0.out hb) (k : Int) (by omega) (by omega)
      rw [← hn', Int.toNat_natCast] at hcell
      cases e
      have HD : Hid (l0.drop k = n :: l0.drop (k + 1)) := by
        show l0.drop k = n :: l0.drop (k + 1)
        have hq_ : l0[k] = n := by
          rw [hn']
          simp [rd, List.getD_eq_getElem?_getD, List.getElem?_eq_getElem hlt]
        rw [List.drop_eq_getElem_cons hlt, hq_]
      clear hn'
      have hkl : (k : Int) < (l0.length : Int) := by omega
      have bad : (n < 1 ∨ 8 < n ∨ 0 < a.getD n.toNat 0) → Hid (plcRes l0 = .tuple #[.agg (nums .i64 zeros9).toArray, .bool false]) := by
        intro h
        show plcRes l0 = _
        unfold plcRes
        rw [hp.out, HD.out, plc, if_pos h]
      have ok : ¬ (n < 1 ∨ 8 < n ∨ 0 < a.getD n.toNat 0) → Hid (plc l0 0 zeros9 = plc (l0.drop (k + 1)) (k + 1) (a.set n.toNat ((k : Int) + 1))) := by
        intro h
        show plc l0 0 zeros9 = _
        rw [hp.out, HD.out, plc, if_neg h]
      by_cases h1 : n < 1
      · have hbad := bad (.inl h1)
        clear bad ok
        go_wp2_with ((with_reducible refine wpList_store_row rfl 89 (.tmp 2) (.tmp 26) rfl w.heap.size #[.int .i64 0, .int .i64 0, .int .i64 0, .int .i64 0, .int .i64 0, .int .i64 0, .int .i64 0, .int .i64 0, .int .i64 0] ?d1 ?d2 89 #[.int .i64 0, .int .i64 0, .int .i64 0, .int .i64 0, .int .i64 0, .int .i64 0, .int .i64 0, .int .i64 0, .int .i64 0] ?c1 ?c2 ?c4 ?c3 ?_); (case d1 => rfl); (case d2 => rfl); (case c1 => exact hz.out); (case c2 => exact HSZ.out); (case c3 => simp [Value.oneCell']); (case c4 => rfl))
        exact bodyPost_ret (results_cell_tmp (q := 3) rfl _ _ w.heap.size 89 _ (0, 0) _ rfl (setRow_heap wr w.heap.size _ _ 89 (0, 0) hz.out) HU.out rfl (by exact HSZ.out) _ rfl) rfl ⟨by rw [hbad.out]; rfl, below_setRow hb (Nat.le_refl _) _⟩
      · have b1 : decide (n < 1) = false := decide_eq_false h1
        by_cases h2 : 8 < n
        · have hbad := bad (.inr (.inl h2))
          clear bad ok
          have b2 : decide (8 < n) = true := decide_eq_true h2
          go_wp2_with ((with_reducible refine wpList_store_row rfl 89 (.tmp 2) (.tmp 26) rfl w.heap.size #[.int .i64 0, .int .i64 0, .int .i64 0, .int .i64 0, .int .i64 0, .int .i64 0, .int .i64 0, .int .i64 0, .int .i64 0] ?d1 ?d2 89 #[.int .i64 0, .int .i64 0, .int .i64 0, .int .i64 0, .int .i64 0, .int .i64 0, .int .i64 0, .int .i64 0, .int .i64 0] ?c1 ?c2 ?c4 ?c3 ?_); (case d1 => rfl); (case d2 => rfl); (case c1 => exact hz.out); (case c2 => exact HSZ.out); (case c3 => simp [Value.oneCell']); (case c4 => rfl))
          exact bodyPost_ret (results_cell_tmp (q := 3) rfl _ _ w.heap.size 89 _ (0, 0) _ rfl (setRow_heap wr w.heap.size _ _ 89 (0, 0) hz.out) HU.out rfl (by exact HSZ.out) _ rfl) rfl ⟨by rw [hbad.out]; rfl, below_setRow hb (Nat.le_refl _) _⟩
        · have b2 : decide (8 < n) = false := decide_eq_false h2
          have p0 : 0 ≤ n := by omega
          have p9 : n < 9 := by omega
          obtain ⟨x, hx⟩ : ∃ x, x = a.getD n.toNat 0 := ⟨_, rfl⟩
          have hac : wr.cell? ⟨w.heap.size + 1, n.toNat, none⟩ = some (.int .i64 x) := by
            rw [blk_cell hh.out, nums_at _ _ _ (by omega), hx]
          have haf := blk_frozen hh.out n.toNat
          by_cases h3 : 0 < x
          · have hbad := bad (.inr (.inr (by rw [← hx]; exact h3)))
            clear bad ok
            have b3 : decide (0 < x) = true := decide_eq_true h3
            clear hx
            go_wp2_with ((with_reducible refine wpList_store_row rfl 89 (.tmp 2) (.tmp 26) rfl w.heap.size #[.int .i64 0, .int .i64 0, .int .i64 0, .int .i64 0, .int .i64 0, .int .i64 0, .int .i64 0, .int .i64 0, .int .i64 0] ?d1 ?d2 89 #[.int .i64 0, .int .i64 0, .int .i64 0, .int .i64 0, .int .i64 0, .int .i64 0, .int .i64 0, .int .i64 0, .int .i64 0] ?c1 ?c2 ?c4 ?c3 ?_); (case d1 => rfl); (case d2 => rfl); (case c1 => exact hz.out); (case c2 => exact HSZ.out); (case c3 => simp [Value.oneCell']); (case c4 => rfl))
            exact bodyPost_ret (results_cell_tmp (q := 3) rfl _ _ w.heap.size 89 _ (0, 0) _ rfl (setRow_heap wr w.heap.size _ _ 89 (0, 0) hz.out) HU.out rfl (by exact HSZ.out) _ rfl) rfl ⟨by rw [hbad.out]; rfl, below_setRow hb (Nat.le_refl _) _⟩
          · have hok := ok (by rw [← hx]; omega)
            clear bad ok
            have b3 : decide (0 < x) = false := decide_eq_false h3
            clear hx
            go_wp2
            go_roundw
            case rel =>
              refine ⟨k + 1, a.set n.toNat ((k : Int) + 1), by omega, by go_num, by rw [List.length_set]; exact ha, hok, ?_, ?_, hb.setCell (by simp) _⟩
              · exact blk_far hz.out (by simp) _
              · have := blk_set hh.out n.toNat (.int .i64 ((k : Int) + 1))
                rw [nums_set] at this
                exact this
            case measure => simp [intOf]; omega
    · have hkk : k = l0.length := by omega
      subst hkk
      have hres : Hid (plcRes l0 = .tuple #[.agg (nums .i64 a).toArray, .bool true]) := by
        show plcRes l0 = _
        unfold plcRes
        rw [hp.out, List.drop_length, plc]
      clear hp
      obtain ⟨a0, a1, a2, a3, a4, a5, a6, a7, a8, rfl⟩ := nine ha
      go_wp2_with (first | ((with_reducible refine wpList_load_row rfl 89 (.tmp 4) rfl (w.heap.size + 1) ?e1 89 #[.int .i64 a0, .int .i64 a1, .int .i64 a2, .int .i64 a3, .int .i64 a4, .int .i64 a5, .int .i64 a6, .int .i64 a7, .int .i64 a8] (0, 0) (.array 9 3) ?e2 ?e3 ?e4 ?e5 ?_); (case e1 => rfl); (case e2 => exact hh.out); (case e3 => exact HU.out); (case e4 => rfl); (case e5 => exact HSZ.out)) | ((with_reducible refine wpList_store_row rfl 89 (.tmp 2) (.tmp 32) rfl w.heap.size #[.int .i64 a0, .int .i64 a1, .int .i64 a2, .int .i64 a3, .int .i64 a4, .int .i64 a5, .int .i64 a6, .int .i64 a7, .int .i64 a8] ?d1 ?d2 89 #[.int .i64 0, .int .i64 0, .int .i64 0, .int .i64 0, .int .i64 0, .int .i64 0, .int .i64 0, .int .i64 0, .int .i64 0] ?c1 ?c2 ?c4 ?c3 ?_); (case d1 => rfl); (case d2 => rfl); (case c1 => exact hz.out); (case c2 => exact HSZ.out); (case c3 => simp [Value.oneCell']); (case c4 => rfl)))
      exact bodyPost_ret (results_cell_tmp (q := 3) rfl _ _ w.heap.size 89 _ (0, 0) _ rfl (setRow_heap wr w.heap.size _ _ 89 (0, 0) hz.out) HU.out rfl (by exact HSZ.out) _ rfl) rfl ⟨by rw [hres.out]; rfl, below_setRow hb (Nat.le_refl _) _⟩

end Go.Proofs.Ytkkmceejfmjidaa.G
