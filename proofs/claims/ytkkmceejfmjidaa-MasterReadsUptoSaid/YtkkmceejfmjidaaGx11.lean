-- Written for this claim by a program of this session (wip/xprint.py), by means of the kit's print. Not trusted: Lean checks it.
import Derived.Test.YtkkmceejfmjidaaGx0
import Derived.Test.YtkkmceejfmjidaaGx9
import Derived.Test.YtkkmceejfmjidaaGx10
namespace Go.Proofs.Ytkkmceejfmjidaa.G
open Go.RowKit Go.Proofs.YtkkmceejfmjidaaW.PrintWords Go.Proofs.YtkkmceejfmjidaaW.PrintLast Go.Proofs.YtkkmceejfmjidaaW.PrintMore
attribute [local go_sem] max2_int min2_int max_two min_two max_three min_three max_four min_four   -- for this text's walks alone
set_option linter.unusedVariables false
set_option linter.unusedSimpArgs false

/-! ### hawserref21_Check: function 9 -/
mutual
def hawserref21_Check.j0 : Nat → Bool → Int → List Int → Int → Int → Int → Int → Option (Int)
  | 0, _, _, _, _, _, _, _ => none
  | k + 1, x17, x162000, x162001, x162002, x162003, x162004, x162005 => if x17 = true then (some 1) else (if x162005 = 0 then (if x162003 = 0 then (if x162004 = 0 then (some 0) else (some 1)) else (some 1)) else (if x162005 = 1 then (hawserref21_Check.j1 k (x162005 == 1) x162000 x162001 x162002 x162003 x162004 x162005) else (hawserref21_Check.j1 k (x162005 == 5) x162000 x162001 x162002 x162003 x162004 x162005)))
def hawserref21_Check.j1 : Nat → Bool → Int → List Int → Int → Int → Int → Int → Option (Int)
  | 0, _, _, _, _, _, _, _ => none
  | k + 1, x30, x162000, x162001, x162002, x162003, x162004, x162005 => if x30 = true then (if x162002 = 0 then (some 1) else (if x162003 < 1 then (some 1) else (if x162003 > 8 then (some 1) else ((hawserref21_Has.f k x162000 x162001 x162003).bind fun t163 => (if t163 = true then (some 1) else (if x162004 < 1 then (some 1) else (if x162004 > 1152921504606846976 then (some 1) else (some 0)))))))) else (some 1)
end
def hawserref21_Check.f (k : Nat) (a0_0 : Int) (l0_1 : List Int) (a0_2 : Int) (a0_3 : Int) (a0_4 : Int) (a0_5 : Int) : Option (Int) := (hawserref21_CheckConfig.f k a0_0 l0_1).bind fun t162 => (if t162 = 0 then (if a0_2 < 0 then (hawserref21_Check.j0 k true a0_0 l0_1 a0_2 a0_3 a0_4 a0_5) else (hawserref21_Check.j0 k (decide (a0_2 > 1152921504606846976)) a0_0 l0_1 a0_2 a0_3 a0_4 a0_5)) else (some t162))
theorem hawserref21_Check.mono_l : ∀ k, (∀ y0 y1 y2 y3 y4 y5 y6, LeO (hawserref21_Check.j0 k y0 y1 y2 y3 y4 y5 y6) (hawserref21_Check.j0 (k + 1) y0 y1 y2 y3 y4 y5 y6)) ∧ (∀ y0 y1 y2 y3 y4 y5 y6, LeO (hawserref21_Check.j1 k y0 y1 y2 y3 y4 y5 y6) (hawserref21_Check.j1 (k + 1) y0 y1 y2 y3 y4 y5 y6))
  | 0 => ⟨fun _ _ _ _ _ _ _ r h => by simp [hawserref21_Check.j0] at h, fun _ _ _ _ _ _ _ r h => by simp [hawserref21_Check.j1] at h⟩
  | k + 1 => by
    obtain ⟨ih0, ih1⟩ := hawserref21_Check.mono_l k
    refine ⟨?_, ?_⟩
    · intro y0 y1 y2 y3 y4 y5 y6
      unfold hawserref21_Check.j0
      repeat' first
      | (with_reducible exact ih0 _ _ _ _ _ _ _)
      | (with_reducible exact ih1 _ _ _ _ _ _ _)
      | (with_reducible exact hawserref21_CheckConfig.mono _ _ _)
      | (with_reducible exact hawserref21_Has.mono _ _ _ _)
      | (with_reducible exact LeO.refl _)
      | (with_reducible exact LeO.none _)
      | (with_reducible refine LeO.ite ?_ ?_)
      | (with_reducible refine LeO.bind ?_ (fun _ => ?_))
      | exact ih0 _ _ _ _ _ _ _
      | exact ih1 _ _ _ _ _ _ _
      | exact hawserref21_CheckConfig.mono _ _ _
      | exact hawserref21_Has.mono _ _ _ _
      | exact LeO.none _
      | refine LeO.ite ?_ ?_
      | refine LeO.bind ?_ (fun _ => ?_)
    · intro y0 y1 y2 y3 y4 y5 y6
      unfold hawserref21_Check.j1
      repeat' first
      | (with_reducible exact ih0 _ _ _ _ _ _ _)
      | (with_reducible exact ih1 _ _ _ _ _ _ _)
      | (with_reducible exact hawserref21_CheckConfig.mono _ _ _)
      | (with_reducible exact hawserref21_Has.mono _ _ _ _)
      | (with_reducible exact LeO.refl _)
      | (with_reducible exact LeO.none _)
      | (with_reducible refine LeO.ite ?_ ?_)
      | (with_reducible refine LeO.bind ?_ (fun _ => ?_))
      | exact ih0 _ _ _ _ _ _ _
      | exact ih1 _ _ _ _ _ _ _
      | exact hawserref21_CheckConfig.mono _ _ _
      | exact hawserref21_Has.mono _ _ _ _
      | exact LeO.none _
      | refine LeO.ite ?_ ?_
      | refine LeO.bind ?_ (fun _ => ?_)
theorem hawserref21_Check.mono : ∀ a0 a1 a2 a3 a4 a5 k, LeO (hawserref21_Check.f k a0 a1 a2 a3 a4 a5) (hawserref21_Check.f (k + 1) a0 a1 a2 a3 a4 a5) := by
  intro a0 a1 a2 a3 a4 a5 k
  obtain ⟨ih0, ih1⟩ := hawserref21_Check.mono_l k
  unfold hawserref21_Check.f
  repeat' first
      | (with_reducible exact ih0 _ _ _ _ _ _ _)
      | (with_reducible exact ih1 _ _ _ _ _ _ _)
      | (with_reducible exact hawserref21_CheckConfig.mono _ _ _)
      | (with_reducible exact hawserref21_Has.mono _ _ _ _)
      | (with_reducible exact LeO.refl _)
      | (with_reducible exact LeO.none _)
      | (with_reducible refine LeO.ite ?_ ?_)
      | (with_reducible refine LeO.bind ?_ (fun _ => ?_))
      | exact ih0 _ _ _ _ _ _ _
      | exact ih1 _ _ _ _ _ _ _
      | exact hawserref21_CheckConfig.mono _ _ _
      | exact hawserref21_Has.mono _ _ _ _
      | exact LeO.none _
      | refine LeO.ite ?_ ?_
      | refine LeO.bind ?_ (fun _ => ?_)
set_option maxHeartbeats 8000000 in
set_option maxRecDepth 100000 in
theorem hawserref21_Check.calls (k : Nat) (a0_0 : Int) (A0_1 : Option Addr) (c0_1 : Nat) (l0_1 : List Int) (a0_2 : Int) (a0_3 : Int) (a0_4 : Int) (a0_5 : Int) (r : Int) (w : World) (hr0_1 : Kd.C (Kd.int .i64) w A0_1 l0_1.length l0_1) (hc0_1 : l0_1.length ≤ c0_1) (h : hawserref21_Check.f k a0_0 l0_1 a0_2 a0_3 a0_4 a0_5 = some r) :
    Calls Try.prog 9 #[.agg #[.int .i64 a0_0, .slice A0_1 l0_1.length c0_1, .int .i64 a0_2, .int .i64 a0_3, .int .i64 a0_4, .int .i64 a0_5]] w fun e w' => e = .returned (.int .i64 r) ∧ Below w.heap.size w w' := by
  have hu27 := Try.underlying27
  have hu24 := Try.underlying24
  have HR0_1 := A_ hr0_1
  have HC0_1 := A_ hc0_1
  clear hr0_1 hc0_1
  have HB := A_ (Below.refl w.heap.size w)
  have H : ((hawserref21_CheckConfig.f k a0_0 l0_1).bind fun t162 => (if t162 = 0 then (if a0_2 < 0 then (hawserref21_Check.j0 k true a0_0 l0_1 a0_2 a0_3 a0_4 a0_5) else (hawserref21_Check.j0 k (decide (a0_2 > 1152921504606846976)) a0_0 l0_1 a0_2 a0_3 a0_4 a0_5)) else (some t162))) = some r := h
  clear h
  replace H := Option.bind_eq_some_iff.mp H
  obtain ⟨t162, A20, H⟩ := H
  replace H : (if t162 = 0 then (if a0_2 < 0 then (hawserref21_Check.j0 k true a0_0 l0_1 a0_2 a0_3 a0_4 a0_5) else (hawserref21_Check.j0 k (decide (a0_2 > 1152921504606846976)) a0_0 l0_1 a0_2 a0_3 a0_4 a0_5)) else (some t162)) = some r := H
  have A2 := A_ A20
  clear A20
  by_cases c3 : t162 = 0
  · rw [if_pos c3] at H
    have c3b0 : (t162 == 0) = true := beq_iff_eq.mpr c3
    have c3b1 : (t162 != 0) = false := bne_eq_false_iff_eq.mpr c3
    clear c3
    have HC4 := A_ H
    clear H
    go_enter Try.func9, Try.ntmps9
    go_upto_region 4 with (first | ((with_reducible refine gate_dst (N := 1) rfl ?_); refine box_event ?hg (N := 1) ?hd (cs := #[.int .i64 a0_0, .slice A0_1 l0_1.length c0_1, .int .i64 a0_2, .int .i64 a0_3, .int .i64 a0_4, .int .i64 a0_5]) (t := 27) ?hr ?_; (case hd => rfl); (case hg => rfl); (case hr => first | (go_simp; done) | (go_simp; rfl)); intro gb161 hg w5 hbox hb; have n0_ := A_ (below_step (by repeat (first | (with_reducible first | exact HB.out | apply pA_ | apply pN_ | apply pD_) | exact HB.out)) hb); have n1_ := A_ (hbox); have n2_ := A_ ((by rw [hg]; exact (below_size (by repeat (first | (with_reducible first | exact HB.out | apply pA_ | apply pN_ | apply pD_) | exact HB.out))) : w.heap.size ≤ gb161)); have n3_ := A_ ((by rw [hg]; exact (below_size (by repeat (first | (with_reducible first | exact HB.out | apply pA_ | apply pN_ | apply pD_) | exact HB.out))) : w.heap.size ≤ gb161)); clear HB; have HB := n0_; have BK161 := n1_; have GW161 := n2_; have GE161 := n3_; clear n0_ n1_ n2_ n3_; clear hb hbox hg; have hcz6_0 : w5.cell? ⟨gb161, 0, none⟩ = some (.int .i64 a0_0) := (bc_ BK161.out 0).trans rfl; have hcz6_1 : w5.cell? ⟨gb161, 1, none⟩ = some (.slice A0_1 l0_1.length c0_1) := (bc_ BK161.out 1).trans rfl; have hcz6_2 : w5.cell? ⟨gb161, 2, none⟩ = some (.int .i64 a0_2) := (bc_ BK161.out 2).trans rfl; have hcz6_3 : w5.cell? ⟨gb161, 3, none⟩ = some (.int .i64 a0_3) := (bc_ BK161.out 3).trans rfl; have hcz6_4 : w5.cell? ⟨gb161, 4, none⟩ = some (.int .i64 a0_4) := (bc_ BK161.out 4).trans rfl; have hcz6_5 : w5.cell? ⟨gb161, 5, none⟩ = some (.int .i64 a0_5) := (bc_ BK161.out 5).trans rfl; have hfz6_0 := blk_frozen BK161.out 0; have hfz6_1 := blk_frozen BK161.out 1; have hfz6_2 := blk_frozen BK161.out 2; have hfz6_3 := blk_frozen BK161.out 3; have hfz6_4 := blk_frozen BK161.out 4; have hfz6_5 := blk_frozen BK161.out 5) | ((with_reducible refine gate_callee (f := 28) rfl ?_); refine goesL_ (some 6) rfl rfl Try.func28 (by kernel_rfl) rfl #[.agg #[.int .i64 a0_0, .slice A0_1 l0_1.length c0_1]] rfl (by (try simp only [List.map_toArray, List.map_cons, List.map_nil]); first | done | rfl | (simp only [List.length_drop, List.length_take]; rfl)) ?_; (with_reducible refine (hawserref21_CheckConfig.calls k a0_0 _ _ l0_1 t162 _ ?side1 ?side2 A2.out).mono ?_); (case side1 => repeat (first | exact (Kd.C_below HR0_1.out HB.out) | (with_reducible refine Kd.C_alloc ?_ _) | (with_reducible refine Kd.C_drewN ?_ _) | (with_reducible refine Kd.C_drew ?_))); (case side2 => exact HC0_1.out); rintro e w7 ⟨rfl, hb⟩; refine ⟨_, rfl, ?_⟩; have n0_ := A_ (blk_below (g := gb161) (o := .cells #[.int .i64 a0_0, .slice A0_1 l0_1.length c0_1, .int .i64 a0_2, .int .i64 a0_3, .int .i64 a0_4, .int .i64 a0_5] 27 (0, 0)) (by (with_reducible repeat (first | refine bN_ ?_ _ | refine bD_ ?_ | refine bA_ ?_ _)); exact BK161.out) hb); have n1_ := A_ (below_step (by repeat (first | (with_reducible first | exact HB.out | apply pA_ | apply pN_ | apply pD_ | refine bs_ ?_ GE161.out) | exact HB.out)) hb); clear BK161; clear HB; have BK161 := n0_; have HB := n1_; clear n0_ n1_; (try clear hb); (try clear hb2); (try clear hk); (try clear hi)))
    (try simp only [Act.put, l1_, l2_, l3_])
    go_cut [17] (fun v17 wc => ∃ (kq : Nat) (x17_3 : Bool), v17 = .bool x17_3 ∧ Aside0 (hawserref21_Check.j0 kq x17_3 a0_0 l0_1 a0_2 a0_3 a0_4 a0_5 = some r) ∧ Aside0 (kq ≤ k) ∧ Aside0 (wc.heap[gb161]? = some (.cells #[.int .i64 a0_0, (.slice A0_1 l0_1.length c0_1), .int .i64 a0_2, .int .i64 a0_3, .int .i64 a0_4, .int .i64 a0_5] 27 (0, 0))) ∧ Aside0 (Below w.heap.size w wc))
    case first =>
      have H := HC4.out
      clear HC4
      by_cases c8 : a0_2 < 0
      · rw [if_pos c8] at H
        have c8b0 : decide (a0_2 < 0) = true := decide_eq_true c8
        clear c8
        (first | rw [c8b0] | (simp only [i64_w, i32_w]; rw [c8b0]) | rw [c8b1] | skip)
        have H' := A_ H
        clear H
        have hcz9_0 : w7.cell? ⟨gb161, 0, none⟩ = some (.int .i64 a0_0) := (bc_ BK161.out 0).trans rfl
        have hcz9_1 : w7.cell? ⟨gb161, 1, none⟩ = some (.slice A0_1 l0_1.length c0_1) := (bc_ BK161.out 1).trans rfl
        have hcz9_2 : w7.cell? ⟨gb161, 2, none⟩ = some (.int .i64 a0_2) := (bc_ BK161.out 2).trans rfl
        have hcz9_3 : w7.cell? ⟨gb161, 3, none⟩ = some (.int .i64 a0_3) := (bc_ BK161.out 3).trans rfl
        have hcz9_4 : w7.cell? ⟨gb161, 4, none⟩ = some (.int .i64 a0_4) := (bc_ BK161.out 4).trans rfl
        have hcz9_5 : w7.cell? ⟨gb161, 5, none⟩ = some (.int .i64 a0_5) := (bc_ BK161.out 5).trans rfl
        have hfz9_0 := blk_frozen BK161.out 0
        have hfz9_1 := blk_frozen BK161.out 1
        have hfz9_2 := blk_frozen BK161.out 2
        have hfz9_3 := blk_frozen BK161.out 3
        have hfz9_4 := blk_frozen BK161.out 4
        have hfz9_5 := blk_frozen BK161.out 5
        go_wp2
        go_meet
        case rel => exact ⟨_, (true), (by first | rfl | (simp; done) | (simp [*]; done)), H', ⟨by first | omega | exact Nat.le_refl _⟩, ⟨by (with_reducible repeat (first | refine bN_ ?_ _ | refine bD_ ?_ | refine bA_ ?_ _)); exact BK161.out⟩, ⟨by repeat (first | (with_reducible first | exact HB.out | apply pA_ | apply pN_ | apply pD_ | refine bs_ ?_ GE161.out) | exact HB.out)⟩⟩
      · rw [if_neg c8] at H
        have c8b0 : decide (a0_2 < 0) = false := decide_eq_false c8
        clear c8
        (first | rw [c8b0] | (simp only [i64_w, i32_w]; rw [c8b0]) | rw [c8b1] | skip)
        have H' := A_ H
        clear H
        have hcz10_0 : w7.cell? ⟨gb161, 0, none⟩ = some (.int .i64 a0_0) := (bc_ BK161.out 0).trans rfl
        have hcz10_1 : w7.cell? ⟨gb161, 1, none⟩ = some (.slice A0_1 l0_1.length c0_1) := (bc_ BK161.out 1).trans rfl
        have hcz10_2 : w7.cell? ⟨gb161, 2, none⟩ = some (.int .i64 a0_2) := (bc_ BK161.out 2).trans rfl
        have hcz10_3 : w7.cell? ⟨gb161, 3, none⟩ = some (.int .i64 a0_3) := (bc_ BK161.out 3).trans rfl
        have hcz10_4 : w7.cell? ⟨gb161, 4, none⟩ = some (.int .i64 a0_4) := (bc_ BK161.out 4).trans rfl
        have hcz10_5 : w7.cell? ⟨gb161, 5, none⟩ = some (.int .i64 a0_5) := (bc_ BK161.out 5).trans rfl
        have hfz10_0 := blk_frozen BK161.out 0
        have hfz10_1 := blk_frozen BK161.out 1
        have hfz10_2 := blk_frozen BK161.out 2
        have hfz10_3 := blk_frozen BK161.out 3
        have hfz10_4 := blk_frozen BK161.out 4
        have hfz10_5 := blk_frozen BK161.out 5
        go_wp2
        go_meet
        case rel => exact ⟨_, (decide (a0_2 > 1152921504606846976)), (by first | rfl | (simp; done) | (simp [*]; done)), H', ⟨by first | omega | exact Nat.le_refl _⟩, ⟨by (with_reducible repeat (first | refine bN_ ?_ _ | refine bD_ ?_ | refine bA_ ?_ _)); exact BK161.out⟩, ⟨by repeat (first | (with_reducible first | exact HB.out | apply pA_ | apply pN_ | apply pD_ | refine bs_ ?_ GE161.out) | exact HB.out)⟩⟩
    case rest =>
      clear HC4
      try clear c2
      try clear p2
      try clear c3
      try clear c3b0
      try clear c3b1
      try clear c8
      try clear c8b0
      try clear c9
      try clear hcz10_0
      try clear hcz10_1
      try clear hcz10_2
      try clear hcz10_3
      try clear hcz10_4
      try clear hcz10_5
      try clear hcz6_0
      try clear hcz6_1
      try clear hcz6_2
      try clear hcz6_3
      try clear hcz6_4
      try clear hcz6_5
      try clear hcz9_0
      try clear hcz9_1
      try clear hcz9_2
      try clear hcz9_3
      try clear hcz9_4
      try clear hcz9_5
      try clear hfz10_0
      try clear hfz10_1
      try clear hfz10_2
      try clear hfz10_3
      try clear hfz10_4
      try clear hfz10_5
      try clear hfz6_0
      try clear hfz6_1
      try clear hfz6_2
      try clear hfz6_3
      try clear hfz6_4
      try clear hfz6_5
      try clear hfz9_0
      try clear hfz9_1
      try clear hfz9_2
      try clear hfz9_3
      try clear hfz9_4
      try clear hfz9_5
      obtain ⟨kq, x17_3, rfl, HA, HJ3, BK161, HB⟩ := hcut
      cases kq with
      | zero => exact absurd HA.out (by simp [hawserref21_Check.j0])
      | succ kj3 =>
        have H := HA.out
        clear HA
        simp only [hawserref21_Check.j0] at H
        by_cases c11 : x17_3 = true
        · subst c11
          have H1 : (some 1) = some r := by rw [if_pos rfl] at H; exact H
          clear H
          have H := H1
          clear H1
          obtain rfl := Option.some.inj H
          go_wp2
          go_ret
          exact ⟨by first | rfl | (simp [errW_none, errW_some] <;> rfl) | (simp [*, errW_none, errW_some] <;> rfl), by repeat (first | (with_reducible first | exact HB.out | apply pA_ | apply pN_ | apply pD_ | refine bs_ ?_ GE161.out) | exact HB.out)⟩
        · replace c11 := Bool.eq_false_iff.mpr c11
          subst c11
          have H1 : (if a0_5 = 0 then (if a0_3 = 0 then (if a0_4 = 0 then (some 0) else (some 1)) else (some 1)) else (if a0_5 = 1 then (hawserref21_Check.j1 kj3 (a0_5 == 1) a0_0 l0_1 a0_2 a0_3 a0_4 a0_5) else (hawserref21_Check.j1 kj3 (a0_5 == 5) a0_0 l0_1 a0_2 a0_3 a0_4 a0_5))) = some r := by rw [if_neg (show ¬ (false = true) by decide)] at H; exact H
          clear H
          have H := H1
          clear H1
          by_cases c12 : a0_5 = 0
          · rw [if_pos c12] at H
            have c12b0 : (a0_5 == 0) = true := beq_iff_eq.mpr c12
            have c12b1 : (a0_5 != 0) = false := bne_eq_false_iff_eq.mpr c12
            clear c12
            by_cases c13 : a0_3 = 0
            · rw [if_pos c13] at H
              have c13b0 : (a0_3 == 0) = true := beq_iff_eq.mpr c13
              have c13b1 : (a0_3 != 0) = false := bne_eq_false_iff_eq.mpr c13
              clear c13
              by_cases c14 : a0_4 = 0
              · rw [if_pos c14] at H
                have c14b0 : (a0_4 == 0) = true := beq_iff_eq.mpr c14
                have c14b1 : (a0_4 != 0) = false := bne_eq_false_iff_eq.mpr c14
                clear c14
                obtain rfl := Option.some.inj H
                have hcz15_0 : wc.cell? ⟨gb161, 0, none⟩ = some (.int .i64 a0_0) := (bc_ BK161.out 0).trans rfl
                have hcz15_1 : wc.cell? ⟨gb161, 1, none⟩ = some (.slice A0_1 l0_1.length c0_1) := (bc_ BK161.out 1).trans rfl
                have hcz15_2 : wc.cell? ⟨gb161, 2, none⟩ = some (.int .i64 a0_2) := (bc_ BK161.out 2).trans rfl
                have hcz15_3 : wc.cell? ⟨gb161, 3, none⟩ = some (.int .i64 a0_3) := (bc_ BK161.out 3).trans rfl
                have hcz15_4 : wc.cell? ⟨gb161, 4, none⟩ = some (.int .i64 a0_4) := (bc_ BK161.out 4).trans rfl
                have hcz15_5 : wc.cell? ⟨gb161, 5, none⟩ = some (.int .i64 a0_5) := (bc_ BK161.out 5).trans rfl
                have hfz15_0 := blk_frozen BK161.out 0
                have hfz15_1 := blk_frozen BK161.out 1
                have hfz15_2 := blk_frozen BK161.out 2
                have hfz15_3 := blk_frozen BK161.out 3
                have hfz15_4 := blk_frozen BK161.out 4
                have hfz15_5 := blk_frozen BK161.out 5
                go_wp2
                go_ret
                exact ⟨by first | rfl | (simp [errW_none, errW_some] <;> rfl) | (simp [*, errW_none, errW_some] <;> rfl), by repeat (first | (with_reducible first | exact HB.out | apply pA_ | apply pN_ | apply pD_ | refine bs_ ?_ GE161.out) | exact HB.out)⟩
              · rw [if_neg c14] at H
                have c14b0 : (a0_4 == 0) = false := beq_eq_false_iff_ne.mpr c14
                have c14b1 : (a0_4 != 0) = true := bne_iff_ne.mpr c14
                obtain rfl := Option.some.inj H
                have hcz16_0 : wc.cell? ⟨gb161, 0, none⟩ = some (.int .i64 a0_0) := (bc_ BK161.out 0).trans rfl
                have hcz16_1 : wc.cell? ⟨gb161, 1, none⟩ = some (.slice A0_1 l0_1.length c0_1) := (bc_ BK161.out 1).trans rfl
                have hcz16_2 : wc.cell? ⟨gb161, 2, none⟩ = some (.int .i64 a0_2) := (bc_ BK161.out 2).trans rfl
                have hcz16_3 : wc.cell? ⟨gb161, 3, none⟩ = some (.int .i64 a0_3) := (bc_ BK161.out 3).trans rfl
                have hcz16_4 : wc.cell? ⟨gb161, 4, none⟩ = some (.int .i64 a0_4) := (bc_ BK161.out 4).trans rfl
                have hcz16_5 : wc.cell? ⟨gb161, 5, none⟩ = some (.int .i64 a0_5) := (bc_ BK161.out 5).trans rfl
                have hfz16_0 := blk_frozen BK161.out 0
                have hfz16_1 := blk_frozen BK161.out 1
                have hfz16_2 := blk_frozen BK161.out 2
                have hfz16_3 := blk_frozen BK161.out 3
                have hfz16_4 := blk_frozen BK161.out 4
                have hfz16_5 := blk_frozen BK161.out 5
                go_wp2
                go_ret
                exact ⟨by first | rfl | (simp [errW_none, errW_some] <;> rfl) | (simp [*, errW_none, errW_some] <;> rfl), by repeat (first | (with_reducible first | exact HB.out | apply pA_ | apply pN_ | apply pD_ | refine bs_ ?_ GE161.out) | exact HB.out)⟩
            · rw [if_neg c13] at H
              have c13b0 : (a0_3 == 0) = false := beq_eq_false_iff_ne.mpr c13
              have c13b1 : (a0_3 != 0) = true := bne_iff_ne.mpr c13
              obtain rfl := Option.some.inj H
              have hcz17_0 : wc.cell? ⟨gb161, 0, none⟩ = some (.int .i64 a0_0) := (bc_ BK161.out 0).trans rfl
              have hcz17_1 : wc.cell? ⟨gb161, 1, none⟩ = some (.slice A0_1 l0_1.length c0_1) := (bc_ BK161.out 1).trans rfl
              have hcz17_2 : wc.cell? ⟨gb161, 2, none⟩ = some (.int .i64 a0_2) := (bc_ BK161.out 2).trans rfl
              have hcz17_3 : wc.cell? ⟨gb161, 3, none⟩ = some (.int .i64 a0_3) := (bc_ BK161.out 3).trans rfl
              have hcz17_4 : wc.cell? ⟨gb161, 4, none⟩ = some (.int .i64 a0_4) := (bc_ BK161.out 4).trans rfl
              have hcz17_5 : wc.cell? ⟨gb161, 5, none⟩ = some (.int .i64 a0_5) := (bc_ BK161.out 5).trans rfl
              have hfz17_0 := blk_frozen BK161.out 0
              have hfz17_1 := blk_frozen BK161.out 1
              have hfz17_2 := blk_frozen BK161.out 2
              have hfz17_3 := blk_frozen BK161.out 3
              have hfz17_4 := blk_frozen BK161.out 4
              have hfz17_5 := blk_frozen BK161.out 5
              go_wp2
              go_ret
              exact ⟨by first | rfl | (simp [errW_none, errW_some] <;> rfl) | (simp [*, errW_none, errW_some] <;> rfl), by repeat (first | (with_reducible first | exact HB.out | apply pA_ | apply pN_ | apply pD_ | refine bs_ ?_ GE161.out) | exact HB.out)⟩
          · rw [if_neg c12] at H
            have c12b0 : (a0_5 == 0) = false := beq_eq_false_iff_ne.mpr c12
            have c12b1 : (a0_5 != 0) = true := bne_iff_ne.mpr c12
            have HC18 := A_ H
            clear H
            have hcz19_0 : wc.cell? ⟨gb161, 0, none⟩ = some (.int .i64 a0_0) := (bc_ BK161.out 0).trans rfl
            have hcz19_1 : wc.cell? ⟨gb161, 1, none⟩ = some (.slice A0_1 l0_1.length c0_1) := (bc_ BK161.out 1).trans rfl
            have hcz19_2 : wc.cell? ⟨gb161, 2, none⟩ = some (.int .i64 a0_2) := (bc_ BK161.out 2).trans rfl
            have hcz19_3 : wc.cell? ⟨gb161, 3, none⟩ = some (.int .i64 a0_3) := (bc_ BK161.out 3).trans rfl
            have hcz19_4 : wc.cell? ⟨gb161, 4, none⟩ = some (.int .i64 a0_4) := (bc_ BK161.out 4).trans rfl
            have hcz19_5 : wc.cell? ⟨gb161, 5, none⟩ = some (.int .i64 a0_5) := (bc_ BK161.out 5).trans rfl
            have hfz19_0 := blk_frozen BK161.out 0
            have hfz19_1 := blk_frozen BK161.out 1
            have hfz19_2 := blk_frozen BK161.out 2
            have hfz19_3 := blk_frozen BK161.out 3
            have hfz19_4 := blk_frozen BK161.out 4
            have hfz19_5 := blk_frozen BK161.out 5
            go_upto_if 30 with (fail)
            go_cut [30] (fun v30 wc => ∃ (kq : Nat) (x30_17 : Bool), v30 = .bool x30_17 ∧ Aside0 (hawserref21_Check.j1 kq x30_17 a0_0 l0_1 a0_2 a0_3 a0_4 a0_5 = some r) ∧ Aside0 (kq ≤ kj3) ∧ Aside0 (wc.heap[gb161]? = some (.cells #[.int .i64 a0_0, (.slice A0_1 l0_1.length c0_1), .int .i64 a0_2, .int .i64 a0_3, .int .i64 a0_4, .int .i64 a0_5] 27 (0, 0))) ∧ Aside0 (Below w.heap.size w wc))
            case first =>
              have H := HC18.out
              clear HC18
              by_cases c20 : a0_5 = 1
              · rw [if_pos c20] at H
                have c20b0 : (a0_5 == 1) = true := beq_iff_eq.mpr c20
                have c20b1 : (a0_5 != 1) = false := bne_eq_false_iff_eq.mpr c20
                clear c20
                (first | rw [c20b0] | (simp only [i64_w, i32_w]; rw [c20b0]) | rw [c20b1] | skip)
                have H' := A_ H
                clear H
                go_wp2
                go_meet
                case rel => exact ⟨_, ((a0_5 == 1)), (by first | rfl | (simp; done) | (simp [*]; done)), H', ⟨by have := HJ3.out; first | omega | exact Nat.le_refl _⟩, ⟨by (with_reducible repeat (first | refine bN_ ?_ _ | refine bD_ ?_ | refine bA_ ?_ _)); exact BK161.out⟩, ⟨by repeat (first | (with_reducible first | exact HB.out | apply pA_ | apply pN_ | apply pD_ | refine bs_ ?_ GE161.out) | exact HB.out)⟩⟩
              · rw [if_neg c20] at H
                have c20b0 : (a0_5 == 1) = false := beq_eq_false_iff_ne.mpr c20
                have c20b1 : (a0_5 != 1) = true := bne_iff_ne.mpr c20
                (first | rw [c20b0] | (simp only [i64_w, i32_w]; rw [c20b0]) | rw [c20b1] | skip)
                have H' := A_ H
                clear H
                go_wp2
                go_meet
                case rel => exact ⟨_, ((a0_5 == 5)), (by first | rfl | (simp; done) | (simp [*]; done)), H', ⟨by have := HJ3.out; first | omega | exact Nat.le_refl _⟩, ⟨by (with_reducible repeat (first | refine bN_ ?_ _ | refine bD_ ?_ | refine bA_ ?_ _)); exact BK161.out⟩, ⟨by repeat (first | (with_reducible first | exact HB.out | apply pA_ | apply pN_ | apply pD_ | refine bs_ ?_ GE161.out) | exact HB.out)⟩⟩
            case rest =>
              clear HC18
              try clear c1
              try clear c2
              try clear p2
              try clear c3
              try clear c3b0
              try clear c3b1
              try clear c8
              try clear c8b0
              try clear c9
              try clear c11
              try clear c12
              try clear c12b0
              try clear c12b1
              try clear c13
              try clear c13b0
              try clear c13b1
              try clear c14
              try clear c14b0
              try clear c14b1
              try clear c20
              try clear c20b0
              try clear c20b1
              try clear hcz10_0
              try clear hcz10_1
              try clear hcz10_2
              try clear hcz10_3
              try clear hcz10_4
              try clear hcz10_5
              try clear hcz15_0
              try clear hcz15_1
              try clear hcz15_2
              try clear hcz15_3
              try clear hcz15_4
              try clear hcz15_5
              try clear hcz16_0
              try clear hcz16_1
              try clear hcz16_2
              try clear hcz16_3
              try clear hcz16_4
              try clear hcz16_5
              try clear hcz17_0
              try clear hcz17_1
              try clear hcz17_2
              try clear hcz17_3
              try clear hcz17_4
              try clear hcz17_5
              try clear hcz19_0
              try clear hcz19_1
              try clear hcz19_2
              try clear hcz19_3
              try clear hcz19_4
              try clear hcz19_5
              try clear hcz6_0
              try clear hcz6_1
              try clear hcz6_2
              try clear hcz6_3
              try clear hcz6_4
              try clear hcz6_5
              try clear hcz9_0
              try clear hcz9_1
              try clear hcz9_2
              try clear hcz9_3
              try clear hcz9_4
              try clear hcz9_5
              try clear hfz10_0
              try clear hfz10_1
              try clear hfz10_2
              try clear hfz10_3
              try clear hfz10_4
              try clear hfz10_5
              try clear hfz15_0
              try clear hfz15_1
              try clear hfz15_2
              try clear hfz15_3
              try clear hfz15_4
              try clear hfz15_5
              try clear hfz16_0
              try clear hfz16_1
              try clear hfz16_2
              try clear hfz16_3
              try clear hfz16_4
              try clear hfz16_5
              try clear hfz17_0
              try clear hfz17_1
              try clear hfz17_2
              try clear hfz17_3
              try clear hfz17_4
              try clear hfz17_5
              try clear hfz19_0
              try clear hfz19_1
              try clear hfz19_2
              try clear hfz19_3
              try clear hfz19_4
              try clear hfz19_5
              try clear hfz6_0
              try clear hfz6_1
              try clear hfz6_2
              try clear hfz6_3
              try clear hfz6_4
              try clear hfz6_5
              try clear hfz9_0
              try clear hfz9_1
              try clear hfz9_2
              try clear hfz9_3
              try clear hfz9_4
              try clear hfz9_5
              try clear p2
              obtain ⟨kq, x30_17, rfl, HA, HJ17, BK161, HB⟩ := hcut
              cases kq with
              | zero => exact absurd HA.out (by simp [hawserref21_Check.j1])
              | succ kj17 =>
                have H := HA.out
                clear HA
                simp only [hawserref21_Check.j1] at H
                by_cases c21 : x30_17 = true
                · subst c21
                  have H1 : (if a0_2 = 0 then (some 1) else (if a0_3 < 1 then (some 1) else (if a0_3 > 8 then (some 1) else ((hawserref21_Has.f kj17 a0_0 l0_1 a0_3).bind fun t163 => (if t163 = true then (some 1) else (if a0_4 < 1 then (some 1) else (if a0_4 > 1152921504606846976 then (some 1) else (some 0)))))))) = some r := by rw [if_pos rfl] at H; exact H
                  clear H
                  have H := H1
                  clear H1
                  by_cases c22 : a0_2 = 0
                  · rw [if_pos c22] at H
                    have c22b0 : (a0_2 == 0) = true := beq_iff_eq.mpr c22
                    have c22b1 : (a0_2 != 0) = false := bne_eq_false_iff_eq.mpr c22
                    clear c22
                    obtain rfl := Option.some.inj H
                    have hcz23_0 : wc.cell? ⟨gb161, 0, none⟩ = some (.int .i64 a0_0) := (bc_ BK161.out 0).trans rfl
                    have hcz23_1 : wc.cell? ⟨gb161, 1, none⟩ = some (.slice A0_1 l0_1.length c0_1) := (bc_ BK161.out 1).trans rfl
                    have hcz23_2 : wc.cell? ⟨gb161, 2, none⟩ = some (.int .i64 a0_2) := (bc_ BK161.out 2).trans rfl
                    have hcz23_3 : wc.cell? ⟨gb161, 3, none⟩ = some (.int .i64 a0_3) := (bc_ BK161.out 3).trans rfl
                    have hcz23_4 : wc.cell? ⟨gb161, 4, none⟩ = some (.int .i64 a0_4) := (bc_ BK161.out 4).trans rfl
                    have hcz23_5 : wc.cell? ⟨gb161, 5, none⟩ = some (.int .i64 a0_5) := (bc_ BK161.out 5).trans rfl
                    have hfz23_0 := blk_frozen BK161.out 0
                    have hfz23_1 := blk_frozen BK161.out 1
                    have hfz23_2 := blk_frozen BK161.out 2
                    have hfz23_3 := blk_frozen BK161.out 3
                    have hfz23_4 := blk_frozen BK161.out 4
                    have hfz23_5 := blk_frozen BK161.out 5
                    go_wp2
                    go_ret
                    exact ⟨by first | rfl | (simp [errW_none, errW_some] <;> rfl) | (simp [*, errW_none, errW_some] <;> rfl), by repeat (first | (with_reducible first | exact HB.out | apply pA_ | apply pN_ | apply pD_ | refine bs_ ?_ GE161.out) | exact HB.out)⟩
                  · rw [if_neg c22] at H
                    have c22b0 : (a0_2 == 0) = false := beq_eq_false_iff_ne.mpr c22
                    have c22b1 : (a0_2 != 0) = true := bne_iff_ne.mpr c22
                    by_cases c24 : a0_3 < 1
                    · rw [if_pos c24] at H
                      have c24b0 : decide (a0_3 < 1) = true := decide_eq_true c24
                      clear c24
                      obtain rfl := Option.some.inj H
                      have hcz25_0 : wc.cell? ⟨gb161, 0, none⟩ = some (.int .i64 a0_0) := (bc_ BK161.out 0).trans rfl
                      have hcz25_1 : wc.cell? ⟨gb161, 1, none⟩ = some (.slice A0_1 l0_1.length c0_1) := (bc_ BK161.out 1).trans rfl
                      have hcz25_2 : wc.cell? ⟨gb161, 2, none⟩ = some (.int .i64 a0_2) := (bc_ BK161.out 2).trans rfl
                      have hcz25_3 : wc.cell? ⟨gb161, 3, none⟩ = some (.int .i64 a0_3) := (bc_ BK161.out 3).trans rfl
                      have hcz25_4 : wc.cell? ⟨gb161, 4, none⟩ = some (.int .i64 a0_4) := (bc_ BK161.out 4).trans rfl
                      have hcz25_5 : wc.cell? ⟨gb161, 5, none⟩ = some (.int .i64 a0_5) := (bc_ BK161.out 5).trans rfl
                      have hfz25_0 := blk_frozen BK161.out 0
                      have hfz25_1 := blk_frozen BK161.out 1
                      have hfz25_2 := blk_frozen BK161.out 2
                      have hfz25_3 := blk_frozen BK161.out 3
                      have hfz25_4 := blk_frozen BK161.out 4
                      have hfz25_5 := blk_frozen BK161.out 5
                      go_wp2
                      go_ret
                      exact ⟨by first | rfl | (simp [errW_none, errW_some] <;> rfl) | (simp [*, errW_none, errW_some] <;> rfl), by repeat (first | (with_reducible first | exact HB.out | apply pA_ | apply pN_ | apply pD_ | refine bs_ ?_ GE161.out) | exact HB.out)⟩
                    · rw [if_neg c24] at H
                      have c24b0 : decide (a0_3 < 1) = false := decide_eq_false c24
                      clear c24
                      by_cases c26 : a0_3 > 8
                      · rw [if_pos c26] at H
                        have c26b0 : decide (8 < a0_3) = true := decide_eq_true c26
                        clear c26
                        obtain rfl := Option.some.inj H
                        have hcz27_0 : wc.cell? ⟨gb161, 0, none⟩ = some (.int .i64 a0_0) := (bc_ BK161.out 0).trans rfl
                        have hcz27_1 : wc.cell? ⟨gb161, 1, none⟩ = some (.slice A0_1 l0_1.length c0_1) := (bc_ BK161.out 1).trans rfl
                        have hcz27_2 : wc.cell? ⟨gb161, 2, none⟩ = some (.int .i64 a0_2) := (bc_ BK161.out 2).trans rfl
                        have hcz27_3 : wc.cell? ⟨gb161, 3, none⟩ = some (.int .i64 a0_3) := (bc_ BK161.out 3).trans rfl
                        have hcz27_4 : wc.cell? ⟨gb161, 4, none⟩ = some (.int .i64 a0_4) := (bc_ BK161.out 4).trans rfl
                        have hcz27_5 : wc.cell? ⟨gb161, 5, none⟩ = some (.int .i64 a0_5) := (bc_ BK161.out 5).trans rfl
                        have hfz27_0 := blk_frozen BK161.out 0
                        have hfz27_1 := blk_frozen BK161.out 1
                        have hfz27_2 := blk_frozen BK161.out 2
                        have hfz27_3 := blk_frozen BK161.out 3
                        have hfz27_4 := blk_frozen BK161.out 4
                        have hfz27_5 := blk_frozen BK161.out 5
                        go_wp2
                        go_ret
                        exact ⟨by first | rfl | (simp [errW_none, errW_some] <;> rfl) | (simp [*, errW_none, errW_some] <;> rfl), by repeat (first | (with_reducible first | exact HB.out | apply pA_ | apply pN_ | apply pD_ | refine bs_ ?_ GE161.out) | exact HB.out)⟩
                      · rw [if_neg c26] at H
                        have c26b0 : decide (8 < a0_3) = false := decide_eq_false c26
                        clear c26
                        replace H := Option.bind_eq_some_iff.mp H
                        obtain ⟨t163, A280, H⟩ := H
                        replace H : (if t163 = true then (some 1) else (if a0_4 < 1 then (some 1) else (if a0_4 > 1152921504606846976 then (some 1) else (some 0)))) = some r := H
                        have A28 := A_ A280
                        clear A280
                        by_cases c29 : t163 = true
                        · subst c29
                          have H1 : (some 1) = some r := by rw [if_pos rfl] at H; exact H
                          clear H
                          have H := H1
                          clear H1
                          obtain rfl := Option.some.inj H
                          have hcz30_0 : wc.cell? ⟨gb161, 0, none⟩ = some (.int .i64 a0_0) := (bc_ BK161.out 0).trans rfl
                          have hcz30_1 : wc.cell? ⟨gb161, 1, none⟩ = some (.slice A0_1 l0_1.length c0_1) := (bc_ BK161.out 1).trans rfl
                          have hcz30_2 : wc.cell? ⟨gb161, 2, none⟩ = some (.int .i64 a0_2) := (bc_ BK161.out 2).trans rfl
                          have hcz30_3 : wc.cell? ⟨gb161, 3, none⟩ = some (.int .i64 a0_3) := (bc_ BK161.out 3).trans rfl
                          have hcz30_4 : wc.cell? ⟨gb161, 4, none⟩ = some (.int .i64 a0_4) := (bc_ BK161.out 4).trans rfl
                          have hcz30_5 : wc.cell? ⟨gb161, 5, none⟩ = some (.int .i64 a0_5) := (bc_ BK161.out 5).trans rfl
                          have hfz30_0 := blk_frozen BK161.out 0
                          have hfz30_1 := blk_frozen BK161.out 1
                          have hfz30_2 := blk_frozen BK161.out 2
                          have hfz30_3 := blk_frozen BK161.out 3
                          have hfz30_4 := blk_frozen BK161.out 4
                          have hfz30_5 := blk_frozen BK161.out 5
                          go_wp2_with (first | (go_at_call 29; (with_reducible refine (hawserref21_Has.calls kj17 a0_0 _ _ l0_1 a0_3 true _ ?side1 ?side2 A28.out).mono ?_); (case side1 => repeat (first | exact (Kd.C_below HR0_1.out HB.out) | (with_reducible refine Kd.C_alloc ?_ _) | (with_reducible refine Kd.C_drewN ?_ _) | (with_reducible refine Kd.C_drew ?_))); (case side2 => exact HC0_1.out); rintro e w31 ⟨rfl, hb⟩; have n0_ := A_ (blk_below (g := gb161) (o := .cells #[.int .i64 a0_0, .slice A0_1 l0_1.length c0_1, .int .i64 a0_2, .int .i64 a0_3, .int .i64 a0_4, .int .i64 a0_5] 27 (0, 0)) (by (with_reducible repeat (first | refine bN_ ?_ _ | refine bD_ ?_ | refine bA_ ?_ _)); exact BK161.out) hb); have n1_ := A_ (below_step (by repeat (first | (with_reducible first | exact HB.out | apply pA_ | apply pN_ | apply pD_ | refine bs_ ?_ GE161.out) | exact HB.out)) hb); clear BK161; clear HB; have BK161 := n0_; have HB := n1_; clear n0_ n1_; (try clear hb); (try clear hb2); (try clear hk); (try clear hi)))
                          go_ret
                          exact ⟨by first | rfl | (simp [errW_none, errW_some] <;> rfl) | (simp [*, errW_none, errW_some] <;> rfl), by repeat (first | (with_reducible first | exact HB.out | apply pA_ | apply pN_ | apply pD_ | refine bs_ ?_ GE161.out) | exact HB.out)⟩
                        · replace c29 := Bool.eq_false_iff.mpr c29
                          subst c29
                          have H1 : (if a0_4 < 1 then (some 1) else (if a0_4 > 1152921504606846976 then (some 1) else (some 0))) = some r := by rw [if_neg (show ¬ (false = true) by decide)] at H; exact H
                          clear H
                          have H := H1
                          clear H1
                          by_cases c32 : a0_4 < 1
                          · rw [if_pos c32] at H
                            have c32b0 : decide (a0_4 < 1) = true := decide_eq_true c32
                            clear c32
                            obtain rfl := Option.some.inj H
                            have hcz33_0 : wc.cell? ⟨gb161, 0, none⟩ = some (.int .i64 a0_0) := (bc_ BK161.out 0).trans rfl
                            have hcz33_1 : wc.cell? ⟨gb161, 1, none⟩ = some (.slice A0_1 l0_1.length c0_1) := (bc_ BK161.out 1).trans rfl
                            have hcz33_2 : wc.cell? ⟨gb161, 2, none⟩ = some (.int .i64 a0_2) := (bc_ BK161.out 2).trans rfl
                            have hcz33_3 : wc.cell? ⟨gb161, 3, none⟩ = some (.int .i64 a0_3) := (bc_ BK161.out 3).trans rfl
                            have hcz33_4 : wc.cell? ⟨gb161, 4, none⟩ = some (.int .i64 a0_4) := (bc_ BK161.out 4).trans rfl
                            have hcz33_5 : wc.cell? ⟨gb161, 5, none⟩ = some (.int .i64 a0_5) := (bc_ BK161.out 5).trans rfl
                            have hfz33_0 := blk_frozen BK161.out 0
                            have hfz33_1 := blk_frozen BK161.out 1
                            have hfz33_2 := blk_frozen BK161.out 2
                            have hfz33_3 := blk_frozen BK161.out 3
                            have hfz33_4 := blk_frozen BK161.out 4
                            have hfz33_5 := blk_frozen BK161.out 5
                            go_wp2_with (first | (go_at_call 29; (with_reducible refine (hawserref21_Has.calls kj17 a0_0 _ _ l0_1 a0_3 false _ ?side1 ?side2 A28.out).mono ?_); (case side1 => repeat (first | exact (Kd.C_below HR0_1.out HB.out) | (with_reducible refine Kd.C_alloc ?_ _) | (with_reducible refine Kd.C_drewN ?_ _) | (with_reducible refine Kd.C_drew ?_))); (case side2 => exact HC0_1.out); rintro e w34 ⟨rfl, hb⟩; have n0_ := A_ (blk_below (g := gb161) (o := .cells #[.int .i64 a0_0, .slice A0_1 l0_1.length c0_1, .int .i64 a0_2, .int .i64 a0_3, .int .i64 a0_4, .int .i64 a0_5] 27 (0, 0)) (by (with_reducible repeat (first | refine bN_ ?_ _ | refine bD_ ?_ | refine bA_ ?_ _)); exact BK161.out) hb); have n1_ := A_ (below_step (by repeat (first | (with_reducible first | exact HB.out | apply pA_ | apply pN_ | apply pD_ | refine bs_ ?_ GE161.out) | exact HB.out)) hb); clear BK161; clear HB; have BK161 := n0_; have HB := n1_; clear n0_ n1_; (try clear hb); (try clear hb2); (try clear hk); (try clear hi); have hcz35_0 : w34.cell? ⟨gb161, 0, none⟩ = some (.int .i64 a0_0) := (bc_ BK161.out 0).trans rfl; have hcz35_1 : w34.cell? ⟨gb161, 1, none⟩ = some (.slice A0_1 l0_1.length c0_1) := (bc_ BK161.out 1).trans rfl; have hcz35_2 : w34.cell? ⟨gb161, 2, none⟩ = some (.int .i64 a0_2) := (bc_ BK161.out 2).trans rfl; have hcz35_3 : w34.cell? ⟨gb161, 3, none⟩ = some (.int .i64 a0_3) := (bc_ BK161.out 3).trans rfl; have hcz35_4 : w34.cell? ⟨gb161, 4, none⟩ = some (.int .i64 a0_4) := (bc_ BK161.out 4).trans rfl; have hcz35_5 : w34.cell? ⟨gb161, 5, none⟩ = some (.int .i64 a0_5) := (bc_ BK161.out 5).trans rfl; have hfz35_0 := blk_frozen BK161.out 0; have hfz35_1 := blk_frozen BK161.out 1; have hfz35_2 := blk_frozen BK161.out 2; have hfz35_3 := blk_frozen BK161.out 3; have hfz35_4 := blk_frozen BK161.out 4; have hfz35_5 := blk_frozen BK161.out 5))
                            go_ret
                            exact ⟨by first | rfl | (simp [errW_none, errW_some] <;> rfl) | (simp [*, errW_none, errW_some] <;> rfl), by repeat (first | (with_reducible first | exact HB.out | apply pA_ | apply pN_ | apply pD_ | refine bs_ ?_ GE161.out) | exact HB.out)⟩
                          · rw [if_neg c32] at H
                            have c32b0 : decide (a0_4 < 1) = false := decide_eq_false c32
                            clear c32
                            by_cases c36 : a0_4 > 1152921504606846976
                            · rw [if_pos c36] at H
                              have c36b0 : decide (1152921504606846976 < a0_4) = true := decide_eq_true c36
                              clear c36
                              obtain rfl := Option.some.inj H
                              have hcz37_0 : wc.cell? ⟨gb161, 0, none⟩ = some (.int .i64 a0_0) := (bc_ BK161.out 0).trans rfl
                              have hcz37_1 : wc.cell? ⟨gb161, 1, none⟩ = some (.slice A0_1 l0_1.length c0_1) := (bc_ BK161.out 1).trans rfl
                              have hcz37_2 : wc.cell? ⟨gb161, 2, none⟩ = some (.int .i64 a0_2) := (bc_ BK161.out 2).trans rfl
                              have hcz37_3 : wc.cell? ⟨gb161, 3, none⟩ = some (.int .i64 a0_3) := (bc_ BK161.out 3).trans rfl
                              have hcz37_4 : wc.cell? ⟨gb161, 4, none⟩ = some (.int .i64 a0_4) := (bc_ BK161.out 4).trans rfl
                              have hcz37_5 : wc.cell? ⟨gb161, 5, none⟩ = some (.int .i64 a0_5) := (bc_ BK161.out 5).trans rfl
                              have hfz37_0 := blk_frozen BK161.out 0
                              have hfz37_1 := blk_frozen BK161.out 1
                              have hfz37_2 := blk_frozen BK161.out 2
                              have hfz37_3 := blk_frozen BK161.out 3
                              have hfz37_4 := blk_frozen BK161.out 4
                              have hfz37_5 := blk_frozen BK161.out 5
                              go_wp2_with (first | (go_at_call 29; (with_reducible refine (hawserref21_Has.calls kj17 a0_0 _ _ l0_1 a0_3 false _ ?side1 ?side2 A28.out).mono ?_); (case side1 => repeat (first | exact (Kd.C_below HR0_1.out HB.out) | (with_reducible refine Kd.C_alloc ?_ _) | (with_reducible refine Kd.C_drewN ?_ _) | (with_reducible refine Kd.C_drew ?_))); (case side2 => exact HC0_1.out); rintro e w38 ⟨rfl, hb⟩; have n0_ := A_ (blk_below (g := gb161) (o := .cells #[.int .i64 a0_0, .slice A0_1 l0_1.length c0_1, .int .i64 a0_2, .int .i64 a0_3, .int .i64 a0_4, .int .i64 a0_5] 27 (0, 0)) (by (with_reducible repeat (first | refine bN_ ?_ _ | refine bD_ ?_ | refine bA_ ?_ _)); exact BK161.out) hb); have n1_ := A_ (below_step (by repeat (first | (with_reducible first | exact HB.out | apply pA_ | apply pN_ | apply pD_ | refine bs_ ?_ GE161.out) | exact HB.out)) hb); clear BK161; clear HB; have BK161 := n0_; have HB := n1_; clear n0_ n1_; (try clear hb); (try clear hb2); (try clear hk); (try clear hi); have hcz39_0 : w38.cell? ⟨gb161, 0, none⟩ = some (.int .i64 a0_0) := (bc_ BK161.out 0).trans rfl; have hcz39_1 : w38.cell? ⟨gb161, 1, none⟩ = some (.slice A0_1 l0_1.length c0_1) := (bc_ BK161.out 1).trans rfl; have hcz39_2 : w38.cell? ⟨gb161, 2, none⟩ = some (.int .i64 a0_2) := (bc_ BK161.out 2).trans rfl; have hcz39_3 : w38.cell? ⟨gb161, 3, none⟩ = some (.int .i64 a0_3) := (bc_ BK161.out 3).trans rfl; have hcz39_4 : w38.cell? ⟨gb161, 4, none⟩ = some (.int .i64 a0_4) := (bc_ BK161.out 4).trans rfl; have hcz39_5 : w38.cell? ⟨gb161, 5, none⟩ = some (.int .i64 a0_5) := (bc_ BK161.out 5).trans rfl; have hfz39_0 := blk_frozen BK161.out 0; have hfz39_1 := blk_frozen BK161.out 1; have hfz39_2 := blk_frozen BK161.out 2; have hfz39_3 := blk_frozen BK161.out 3; have hfz39_4 := blk_frozen BK161.out 4; have hfz39_5 := blk_frozen BK161.out 5))
                              go_ret
                              exact ⟨by first | rfl | (simp [errW_none, errW_some] <;> rfl) | (simp [*, errW_none, errW_some] <;> rfl), by repeat (first | (with_reducible first | exact HB.out | apply pA_ | apply pN_ | apply pD_ | refine bs_ ?_ GE161.out) | exact HB.out)⟩
                            · rw [if_neg c36] at H
                              have c36b0 : decide (1152921504606846976 < a0_4) = false := decide_eq_false c36
                              clear c36
                              obtain rfl := Option.some.inj H
                              have hcz40_0 : wc.cell? ⟨gb161, 0, none⟩ = some (.int .i64 a0_0) := (bc_ BK161.out 0).trans rfl
                              have hcz40_1 : wc.cell? ⟨gb161, 1, none⟩ = some (.slice A0_1 l0_1.length c0_1) := (bc_ BK161.out 1).trans rfl
                              have hcz40_2 : wc.cell? ⟨gb161, 2, none⟩ = some (.int .i64 a0_2) := (bc_ BK161.out 2).trans rfl
                              have hcz40_3 : wc.cell? ⟨gb161, 3, none⟩ = some (.int .i64 a0_3) := (bc_ BK161.out 3).trans rfl
                              have hcz40_4 : wc.cell? ⟨gb161, 4, none⟩ = some (.int .i64 a0_4) := (bc_ BK161.out 4).trans rfl
                              have hcz40_5 : wc.cell? ⟨gb161, 5, none⟩ = some (.int .i64 a0_5) := (bc_ BK161.out 5).trans rfl
                              have hfz40_0 := blk_frozen BK161.out 0
                              have hfz40_1 := blk_frozen BK161.out 1
                              have hfz40_2 := blk_frozen BK161.out 2
                              have hfz40_3 := blk_frozen BK161.out 3
                              have hfz40_4 := blk_frozen BK161.out 4
                              have hfz40_5 := blk_frozen BK161.out 5
                              go_wp2_with (first | (go_at_call 29; (with_reducible refine (hawserref21_Has.calls kj17 a0_0 _ _ l0_1 a0_3 false _ ?side1 ?side2 A28.out).mono ?_); (case side1 => repeat (first | exact (Kd.C_below HR0_1.out HB.out) | (with_reducible refine Kd.C_alloc ?_ _) | (with_reducible refine Kd.C_drewN ?_ _) | (with_reducible refine Kd.C_drew ?_))); (case side2 => exact HC0_1.out); rintro e w41 ⟨rfl, hb⟩; have n0_ := A_ (blk_below (g := gb161) (o := .cells #[.int .i64 a0_0, .slice A0_1 l0_1.length c0_1, .int .i64 a0_2, .int .i64 a0_3, .int .i64 a0_4, .int .i64 a0_5] 27 (0, 0)) (by (with_reducible repeat (first | refine bN_ ?_ _ | refine bD_ ?_ | refine bA_ ?_ _)); exact BK161.out) hb); have n1_ := A_ (below_step (by repeat (first | (with_reducible first | exact HB.out | apply pA_ | apply pN_ | apply pD_ | refine bs_ ?_ GE161.out) | exact HB.out)) hb); clear BK161; clear HB; have BK161 := n0_; have HB := n1_; clear n0_ n1_; (try clear hb); (try clear hb2); (try clear hk); (try clear hi); have hcz42_0 : w41.cell? ⟨gb161, 0, none⟩ = some (.int .i64 a0_0) := (bc_ BK161.out 0).trans rfl; have hcz42_1 : w41.cell? ⟨gb161, 1, none⟩ = some (.slice A0_1 l0_1.length c0_1) := (bc_ BK161.out 1).trans rfl; have hcz42_2 : w41.cell? ⟨gb161, 2, none⟩ = some (.int .i64 a0_2) := (bc_ BK161.out 2).trans rfl; have hcz42_3 : w41.cell? ⟨gb161, 3, none⟩ = some (.int .i64 a0_3) := (bc_ BK161.out 3).trans rfl; have hcz42_4 : w41.cell? ⟨gb161, 4, none⟩ = some (.int .i64 a0_4) := (bc_ BK161.out 4).trans rfl; have hcz42_5 : w41.cell? ⟨gb161, 5, none⟩ = some (.int .i64 a0_5) := (bc_ BK161.out 5).trans rfl; have hfz42_0 := blk_frozen BK161.out 0; have hfz42_1 := blk_frozen BK161.out 1; have hfz42_2 := blk_frozen BK161.out 2; have hfz42_3 := blk_frozen BK161.out 3; have hfz42_4 := blk_frozen BK161.out 4; have hfz42_5 := blk_frozen BK161.out 5))
                              go_ret
                              exact ⟨by first | rfl | (simp [errW_none, errW_some] <;> rfl) | (simp [*, errW_none, errW_some] <;> rfl), by repeat (first | (with_reducible first | exact HB.out | apply pA_ | apply pN_ | apply pD_ | refine bs_ ?_ GE161.out) | exact HB.out)⟩
                · replace c21 := Bool.eq_false_iff.mpr c21
                  subst c21
                  have H1 : (some 1) = some r := by rw [if_neg (show ¬ (false = true) by decide)] at H; exact H
                  clear H
                  have H := H1
                  clear H1
                  obtain rfl := Option.some.inj H
                  go_wp2
                  go_ret
                  exact ⟨by first | rfl | (simp [errW_none, errW_some] <;> rfl) | (simp [*, errW_none, errW_some] <;> rfl), by repeat (first | (with_reducible first | exact HB.out | apply pA_ | apply pN_ | apply pD_ | refine bs_ ?_ GE161.out) | exact HB.out)⟩
  · rw [if_neg c3] at H
    have c3b0 : (t162 == 0) = false := beq_eq_false_iff_ne.mpr c3
    have c3b1 : (t162 != 0) = true := bne_iff_ne.mpr c3
    obtain rfl := Option.some.inj H
    go_enter Try.func9, Try.ntmps9
    go_wp2_with (first | ((with_reducible refine gate_dst (N := 1) rfl ?_); refine box_event ?hg (N := 1) ?hd (cs := #[.int .i64 a0_0, .slice A0_1 l0_1.length c0_1, .int .i64 a0_2, .int .i64 a0_3, .int .i64 a0_4, .int .i64 a0_5]) (t := 27) ?hr ?_; (case hd => rfl); (case hg => rfl); (case hr => first | (go_simp; done) | (go_simp; rfl)); intro gb161 hg w43 hbox hb; have n0_ := A_ (below_step (by repeat (first | (with_reducible first | exact HB.out | apply pA_ | apply pN_ | apply pD_) | exact HB.out)) hb); have n1_ := A_ (hbox); have n2_ := A_ ((by rw [hg]; exact (below_size (by repeat (first | (with_reducible first | exact HB.out | apply pA_ | apply pN_ | apply pD_) | exact HB.out))) : w.heap.size ≤ gb161)); have n3_ := A_ ((by rw [hg]; exact (below_size (by repeat (first | (with_reducible first | exact HB.out | apply pA_ | apply pN_ | apply pD_) | exact HB.out))) : w.heap.size ≤ gb161)); clear HB; have HB := n0_; have BK161 := n1_; have GW161 := n2_; have GE161 := n3_; clear n0_ n1_ n2_ n3_; clear hb hbox hg; have hcz44_0 : w43.cell? ⟨gb161, 0, none⟩ = some (.int .i64 a0_0) := (bc_ BK161.out 0).trans rfl; have hcz44_1 : w43.cell? ⟨gb161, 1, none⟩ = some (.slice A0_1 l0_1.length c0_1) := (bc_ BK161.out 1).trans rfl; have hcz44_2 : w43.cell? ⟨gb161, 2, none⟩ = some (.int .i64 a0_2) := (bc_ BK161.out 2).trans rfl; have hcz44_3 : w43.cell? ⟨gb161, 3, none⟩ = some (.int .i64 a0_3) := (bc_ BK161.out 3).trans rfl; have hcz44_4 : w43.cell? ⟨gb161, 4, none⟩ = some (.int .i64 a0_4) := (bc_ BK161.out 4).trans rfl; have hcz44_5 : w43.cell? ⟨gb161, 5, none⟩ = some (.int .i64 a0_5) := (bc_ BK161.out 5).trans rfl; have hfz44_0 := blk_frozen BK161.out 0; have hfz44_1 := blk_frozen BK161.out 1; have hfz44_2 := blk_frozen BK161.out 2; have hfz44_3 := blk_frozen BK161.out 3; have hfz44_4 := blk_frozen BK161.out 4; have hfz44_5 := blk_frozen BK161.out 5) | ((with_reducible refine gate_callee (f := 28) rfl ?_); refine goesL_ (some 6) rfl rfl Try.func28 (by kernel_rfl) rfl #[.agg #[.int .i64 a0_0, .slice A0_1 l0_1.length c0_1]] rfl (by (try simp only [List.map_toArray, List.map_cons, List.map_nil]); first | done | rfl | (simp only [List.length_drop, List.length_take]; rfl)) ?_; (with_reducible refine (hawserref21_CheckConfig.calls k a0_0 _ _ l0_1 t162 _ ?side1 ?side2 A2.out).mono ?_); (case side1 => repeat (first | exact (Kd.C_below HR0_1.out HB.out) | (with_reducible refine Kd.C_alloc ?_ _) | (with_reducible refine Kd.C_drewN ?_ _) | (with_reducible refine Kd.C_drew ?_))); (case side2 => exact HC0_1.out); rintro e w45 ⟨rfl, hb⟩; refine ⟨_, rfl, ?_⟩; have n0_ := A_ (blk_below (g := gb161) (o := .cells #[.int .i64 a0_0, .slice A0_1 l0_1.length c0_1, .int .i64 a0_2, .int .i64 a0_3, .int .i64 a0_4, .int .i64 a0_5] 27 (0, 0)) (by (with_reducible repeat (first | refine bN_ ?_ _ | refine bD_ ?_ | refine bA_ ?_ _)); exact BK161.out) hb); have n1_ := A_ (below_step (by repeat (first | (with_reducible first | exact HB.out | apply pA_ | apply pN_ | apply pD_ | refine bs_ ?_ GE161.out) | exact HB.out)) hb); clear BK161; clear HB; have BK161 := n0_; have HB := n1_; clear n0_ n1_; (try clear hb); (try clear hb2); (try clear hk); (try clear hi)))
    go_ret
    exact ⟨by first | rfl | (simp [errW_none, errW_some] <;> rfl) | (simp [*, errW_none, errW_some] <;> rfl), by repeat (first | (with_reducible first | exact HB.out | apply pA_ | apply pN_ | apply pD_ | refine bs_ ?_ GE161.out) | exact HB.out)⟩

end Go.Proofs.Ytkkmceejfmjidaa.G
