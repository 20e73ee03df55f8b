-- Written for this claim by a program of this session (wip/xprint.py), by means of the kit's print. Not trusted: Lean checks it.
import Derived.Test.YtjhijklgpgdlaaaGx0
namespace Go.Proofs.Ytjhijklgpgdlaaa.G
open Go.RowKit Go.Proofs.YtjhijklgpgdlaaaW.PrintWords Go.Proofs.YtjhijklgpgdlaaaW.PrintLast Go.Proofs.YtjhijklgpgdlaaaW.PrintMore
attribute [local go_sem] max2_int min2_int max_two min_two max_three min_three max_four min_four   -- for this text's walks alone
set_option linter.unusedVariables false
set_option linter.unusedSimpArgs false

/-! ### hawserlaw16_num: function 14 -/
def hawserlaw16_num.f (a0 : Int) : Option (Int) := some a0
set_option maxHeartbeats 8000000 in
set_option maxRecDepth 100000 in
theorem hawserlaw16_num.calls (a0 : Int) (r : Int) (w : World) (h : hawserlaw16_num.f a0 = some r) :
    Calls Try.prog 14 #[.int .i64 a0] w fun e w' => e = .returned (.int .i64 r) ∧ Drawn0 w w' := by
  have H : (some a0) = some r := h
  clear h
  obtain rfl := Option.some.inj H
  go_enter Try.func14, Try.ntmps14
  go_wp2
  go_ret
  exact ⟨by first | rfl | (simp; done) | (simp [*]; done), by repeat (first | exact Drawn0.refl _ | apply Drawn0.step)⟩

/-! ### config_Settings: function 15 -/
def cfgSettings (a b c d e : Int) : Int := if 1 ≤ a ∧ a ≤ 3 ∧ 1 ≤ b ∧ b ≤ 64 ∧ 1 ≤ c ∧ c ≤ 100 ∧ 64 ≤ d ∧ d ≤ 262144 ∧ 1 ≤ e ∧ e ≤ 4096 then 0 else 1
def config_Settings.f (a0_0 a0_1 a0_2 a0_3 a0_4 : Int) : Option Int := some (cfgSettings a0_0 a0_1 a0_2 a0_3 a0_4)
set_option maxHeartbeats 1600000 in
theorem config_Settings.calls (a0_0 a0_1 a0_2 a0_3 a0_4 : Int) (r : Int) (w : World) (h : config_Settings.f a0_0 a0_1 a0_2 a0_3 a0_4 = some r) :
    Calls Try.prog 15 #[.agg #[.int .i64 a0_0, .int .i64 a0_1, .int .i64 a0_2, .int .i64 a0_3, .int .i64 a0_4]] w fun e w' => e = .returned (.int .i64 r) ∧ Below w.heap.size w w' := by
  obtain rfl := Option.some.inj h
  clear h
  have HF : Hid ((1 ≤ a0_0 ∧ a0_0 ≤ 3 ∧ 1 ≤ a0_1 ∧ a0_1 ≤ 64 ∧ 1 ≤ a0_2 ∧ a0_2 ≤ 100 ∧ 64 ≤ a0_3 ∧ a0_3 ≤ 262144 ∧ 1 ≤ a0_4 ∧ a0_4 ≤ 4096 → cfgSettings a0_0 a0_1 a0_2 a0_3 a0_4 = 0) ∧ (¬ (1 ≤ a0_0 ∧ a0_0 ≤ 3 ∧ 1 ≤ a0_1 ∧ a0_1 ≤ 64 ∧ 1 ≤ a0_2 ∧ a0_2 ≤ 100 ∧ 64 ≤ a0_3 ∧ a0_3 ≤ 262144 ∧ 1 ≤ a0_4 ∧ a0_4 ≤ 4096) → cfgSettings a0_0 a0_1 a0_2 a0_3 a0_4 = 1)) := ⟨fun h => if_pos h, fun h => if_neg h⟩
  generalize cfgSettings a0_0 a0_1 a0_2 a0_3 a0_4 = r at HF ⊢
  go_enter Try.func15, Try.ntmps15
  go_wp2
  all_goals go_ret
  all_goals (
    try simp only [Bool.not_eq_true', Bool.not_eq_false', decide_eq_true_eq, decide_eq_false_iff_not] at *
    first
    | exact ⟨by rw [HF.out.1 (by omega)]; rfl, (Below.refl _ _).alloc (Nat.le_refl _) _⟩
    | exact ⟨by rw [HF.out.2 (by omega)]; rfl, (Below.refl _ _).alloc (Nat.le_refl _) _⟩)

/-! ### hawserref16_Settings: function 16 -/
def hawserref16_Settings.f (a0 : Int) (a1 : Int) (a2 : Int) (a3 : Int) (a4 : Int) : Option (Int) := if a0 < 1 then (some 1) else (if a0 > 3 then (some 1) else (if a1 < 1 then (some 1) else (if a1 > 64 then (some 1) else (if a2 < 1 then (some 1) else (if a2 > 100 then (some 1) else (if a3 < 64 then (some 1) else (if a3 > 262144 then (some 1) else (if a4 < 1 then (some 1) else (if a4 > 4096 then (some 1) else (some 0))))))))))
set_option maxHeartbeats 8000000 in
set_option maxRecDepth 100000 in
theorem hawserref16_Settings.calls (a0 : Int) (a1 : Int) (a2 : Int) (a3 : Int) (a4 : Int) (r : Int) (w : World) (h : hawserref16_Settings.f a0 a1 a2 a3 a4 = some r) :
    Calls Try.prog 16 #[.int .i64 a0, .int .i64 a1, .int .i64 a2, .int .i64 a3, .int .i64 a4] w fun e w' => e = .returned (.int .i64 r) ∧ Drawn0 w w' := by
  have H : (if a0 < 1 then (some 1) else (if a0 > 3 then (some 1) else (if a1 < 1 then (some 1) else (if a1 > 64 then (some 1) else (if a2 < 1 then (some 1) else (if a2 > 100 then (some 1) else (if a3 < 64 then (some 1) else (if a3 > 262144 then (some 1) else (if a4 < 1 then (some 1) else (if a4 > 4096 then (some 1) else (some 0))))))))))) = some r := h
  clear h
  by_cases c6 : a0 < 1
  · rw [if_pos c6] at H
    have c6b0 : decide (a0 < 1) = true := decide_eq_true c6
    clear c6
    obtain rfl := Option.some.inj H
    go_enter Try.func16, Try.ntmps16
    go_wp2
    go_ret
    exact ⟨by first | rfl | (simp; done) | (simp [*]; done), by repeat (first | exact Drawn0.refl _ | apply Drawn0.step)⟩
  · rw [if_neg c6] at H
    have c6b0 : decide (a0 < 1) = false := decide_eq_false c6
    clear c6
    by_cases c7 : a0 > 3
    · rw [if_pos c7] at H
      have c7b0 : decide (3 < a0) = true := decide_eq_true c7
      clear c7
      obtain rfl := Option.some.inj H
      go_enter Try.func16, Try.ntmps16
      go_wp2
      go_ret
      exact ⟨by first | rfl | (simp; done) | (simp [*]; done), by repeat (first | exact Drawn0.refl _ | apply Drawn0.step)⟩
    · rw [if_neg c7] at H
      have c7b0 : decide (3 < a0) = false := decide_eq_false c7
      clear c7
      by_cases c8 : a1 < 1
      · rw [if_pos c8] at H
        have c8b0 : decide (a1 < 1) = true := decide_eq_true c8
        clear c8
        obtain rfl := Option.some.inj H
        go_enter Try.func16, Try.ntmps16
        go_wp2
        go_ret
        exact ⟨by first | rfl | (simp; done) | (simp [*]; done), by repeat (first | exact Drawn0.refl _ | apply Drawn0.step)⟩
      · rw [if_neg c8] at H
        have c8b0 : decide (a1 < 1) = false := decide_eq_false c8
        clear c8
        by_cases c9 : a1 > 64
        · rw [if_pos c9] at H
          have c9b0 : decide (64 < a1) = true := decide_eq_true c9
          clear c9
          obtain rfl := Option.some.inj H
          go_enter Try.func16, Try.ntmps16
          go_wp2
          go_ret
          exact ⟨by first | rfl | (simp; done) | (simp [*]; done), by repeat (first | exact Drawn0.refl _ | apply Drawn0.step)⟩
        · rw [if_neg c9] at H
          have c9b0 : decide (64 < a1) = false := decide_eq_false c9
          clear c9
          by_cases c10 : a2 < 1
          · rw [if_pos c10] at H
            have c10b0 : decide (a2 < 1) = true := decide_eq_true c10
            clear c10
            obtain rfl := Option.some.inj H
            go_enter Try.func16, Try.ntmps16
            go_wp2
            go_ret
            exact ⟨by first | rfl | (simp; done) | (simp [*]; done), by repeat (first | exact Drawn0.refl _ | apply Drawn0.step)⟩
          · rw [if_neg c10] at H
            have c10b0 : decide (a2 < 1) = false := decide_eq_false c10
            clear c10
            by_cases c11 : a2 > 100
            · rw [if_pos c11] at H
              have c11b0 : decide (100 < a2) = true := decide_eq_true c11
              clear c11
              obtain rfl := Option.some.inj H
              go_enter Try.func16, Try.ntmps16
              go_wp2
              go_ret
              exact ⟨by first | rfl | (simp; done) | (simp [*]; done), by repeat (first | exact Drawn0.refl _ | apply Drawn0.step)⟩
            · rw [if_neg c11] at H
              have c11b0 : decide (100 < a2) = false := decide_eq_false c11
              clear c11
              by_cases c12 : a3 < 64
              · rw [if_pos c12] at H
                have c12b0 : decide (a3 < 64) = true := decide_eq_true c12
                clear c12
                obtain rfl := Option.some.inj H
                go_enter Try.func16, Try.ntmps16
                go_wp2
                go_ret
                exact ⟨by first | rfl | (simp; done) | (simp [*]; done), by repeat (first | exact Drawn0.refl _ | apply Drawn0.step)⟩
              · rw [if_neg c12] at H
                have c12b0 : decide (a3 < 64) = false := decide_eq_false c12
                clear c12
                by_cases c13 : a3 > 262144
                · rw [if_pos c13] at H
                  have c13b0 : decide (262144 < a3) = true := decide_eq_true c13
                  clear c13
                  obtain rfl := Option.some.inj H
                  go_enter Try.func16, Try.ntmps16
                  go_wp2
                  go_ret
                  exact ⟨by first | rfl | (simp; done) | (simp [*]; done), by repeat (first | exact Drawn0.refl _ | apply Drawn0.step)⟩
                · rw [if_neg c13] at H
                  have c13b0 : decide (262144 < a3) = false := decide_eq_false c13
                  clear c13
                  by_cases c14 : a4 < 1
                  · rw [if_pos c14] at H
                    have c14b0 : decide (a4 < 1) = true := decide_eq_true c14
                    clear c14
                    obtain rfl := Option.some.inj H
                    go_enter Try.func16, Try.ntmps16
                    go_wp2
                    go_ret
                    exact ⟨by first | rfl | (simp; done) | (simp [*]; done), by repeat (first | exact Drawn0.refl _ | apply Drawn0.step)⟩
                  · rw [if_neg c14] at H
                    have c14b0 : decide (a4 < 1) = false := decide_eq_false c14
                    clear c14
                    by_cases c15 : a4 > 4096
                    · rw [if_pos c15] at H
                      have c15b0 : decide (4096 < a4) = true := decide_eq_true c15
                      clear c15
                      obtain rfl := Option.some.inj H
                      go_enter Try.func16, Try.ntmps16
                      go_wp2
                      go_ret
                      exact ⟨by first | rfl | (simp; done) | (simp [*]; done), by repeat (first | exact Drawn0.refl _ | apply Drawn0.step)⟩
                    · rw [if_neg c15] at H
                      have c15b0 : decide (4096 < a4) = false := decide_eq_false c15
                      clear c15
                      obtain rfl := Option.some.inj H
                      go_enter Try.func16, Try.ntmps16
                      go_wp2
                      go_ret
                      exact ⟨by first | rfl | (simp; done) | (simp [*]; done), by repeat (first | exact Drawn0.refl _ | apply Drawn0.step)⟩

/-! ### hawserlaw16_ConfigSettings: function 3 -/
def hawserlaw16_ConfigSettings.f (a0_0 : Int) (a0_1 : Int) (a0_2 : Int) (a0_3 : Int) (a0_4 : Int) : Option (Bool) := (config_Settings.f a0_0 a0_1 a0_2 a0_3 a0_4).bind fun t102 => ((hawserlaw16_num.f t102).bind fun t103 => ((hawserref16_Settings.f a0_0 a0_1 a0_2 a0_3 a0_4).bind fun t104 => (some (t103 == t104))))
def hawserlaw16_ConfigSettings.T1 : Bool × List (List Nat × List Nat) := (true, [([], []), ([0], [0]), ([1, 1], [1]), ([], []), ([3], [3]), ([], []), ([5], [5]), ([], []), ([7], [7]), ([], []), ([9], [9]), ([], []), ([11], [11]), ([4, 6, 8, 10, 12, 2], [4, 6, 8, 10, 12]), ([2, 13], [2, 13]), ([14, 13, 0, 1, 2, 3, 4, 5, 6, 7, 8, 9, 10, 11, 12, 13, 14], [14])])
def hawserlaw16_ConfigSettings.B1 : List Nat := [0, 1, 3, 0, 8, 0, 32, 0, 128, 0, 512, 0, 2048, 8191, 16383, 32767]
theorem hawserlaw16_ConfigSettings.tab1 : rtab .any (opsOf Try.f3 1) = hawserlaw16_ConfigSettings.T1 := by kernel_rfl
theorem hawserlaw16_ConfigSettings.bits1 : waitsOk hawserlaw16_ConfigSettings.T1.2 hawserlaw16_ConfigSettings.B1 = true := by kernel_rfl
set_option maxHeartbeats 8000000 in
set_option maxRecDepth 100000 in
theorem hawserlaw16_ConfigSettings.calls (a0_0 : Int) (a0_1 : Int) (a0_2 : Int) (a0_3 : Int) (a0_4 : Int) (r : Bool) (w : World) (h : hawserlaw16_ConfigSettings.f a0_0 a0_1 a0_2 a0_3 a0_4 = some r) :
    Calls Try.prog 3 #[.agg #[.int .i64 a0_0, .int .i64 a0_1, .int .i64 a0_2, .int .i64 a0_3, .int .i64 a0_4]] w fun e w' => e = .returned (.bool r) ∧ Below w.heap.size w w' := by
  have hu23 := Try.underlying23
  have HB := Aside0.mk (Below.refl w.heap.size w)
  have H : ((config_Settings.f a0_0 a0_1 a0_2 a0_3 a0_4).bind fun t102 => ((hawserlaw16_num.f t102).bind fun t103 => ((hawserref16_Settings.f a0_0 a0_1 a0_2 a0_3 a0_4).bind fun t104 => (some (t103 == t104))))) = some r := h
  clear h
  replace H := Option.bind_eq_some_iff.mp H
  obtain ⟨t102, A20, H⟩ := H
  replace H : ((hawserlaw16_num.f t102).bind fun t103 => ((hawserref16_Settings.f a0_0 a0_1 a0_2 a0_3 a0_4).bind fun t104 => (some (t103 == t104)))) = some r := H
  have A2 := Aside0.mk A20
  clear A20
  replace H := Option.bind_eq_some_iff.mp H
  obtain ⟨t103, A30, H⟩ := H
  replace H : ((hawserref16_Settings.f a0_0 a0_1 a0_2 a0_3 a0_4).bind fun t104 => (some (t103 == t104))) = some r := H
  have A3 := Aside0.mk A30
  clear A30
  replace H := Option.bind_eq_some_iff.mp H
  obtain ⟨t104, A40, H⟩ := H
  replace H : (some (t103 == t104)) = some r := H
  have A4 := Aside0.mk A40
  clear A40
  obtain rfl := Option.some.inj H
  go_enter Try.func3, Try.ntmps3
  try go_wp2_with (first | ((with_reducible refine gate_dst (N := 1) rfl ?_); refine box_event ?hg (N := 1) ?hd (cs := #[.int .i64 a0_0, .int .i64 a0_1, .int .i64 a0_2, .int .i64 a0_3, .int .i64 a0_4]) (t := 23) ?hr ?_; (case hd => rfl); (case hg => rfl); (case hr => first | (go_simp; done) | (go_simp; rfl)); intro gb101 hg w5 hbox hb; have n0_ := Aside0.mk (below_step (by repeat (first | (with_reducible first | exact HB.out | apply below_alloc | apply pw_below_drewN | apply below_drew1) | exact HB.out)) hb); have n1_ := Aside0.mk (hbox); have n2_ := Aside0.mk ((by rw [hg]; exact (below_size (by repeat (first | (with_reducible first | exact HB.out | apply below_alloc | apply pw_below_drewN | apply below_drew1) | exact HB.out))) : w.heap.size ≤ gb101)); have n3_ := Aside0.mk ((by rw [hg]; exact (below_size (by repeat (first | (with_reducible first | exact HB.out | apply below_alloc | apply pw_below_drewN | apply below_drew1) | exact HB.out))) : w.heap.size ≤ gb101)); clear HB; have HB := n0_; have BK101 := n1_; have GW101 := n2_; have GE101 := n3_; clear n0_ n1_ n2_ n3_; clear hb hbox hg))
  have n0_ := Aside0.mk (blk_drew BK101.out)
  have n1_ := Aside0.mk (below_drew1 HB.out)
  clear BK101
  clear HB
  have BK101 := n0_
  have HB := n1_
  clear n0_ n1_
  refine start_ (n := 16) (S := fun w' => w'.cell? ⟨gb101, 0, none⟩ = some (.int .i64 a0_0) ∧ w'.cell? ⟨gb101, 1, none⟩ = some (.int .i64 a0_1) ∧ w'.cell? ⟨gb101, 2, none⟩ = some (.int .i64 a0_2) ∧ w'.cell? ⟨gb101, 3, none⟩ = some (.int .i64 a0_3) ∧ w'.cell? ⟨gb101, 4, none⟩ = some (.int .i64 a0_4)) (ds := []) #[false, false, false, false, false, false, false, false, false, false, false, false, false, false, false, false] (by kernel_rfl) rfl rfl ⟨(blk_cell BK101.out 0).trans rfl, (blk_cell BK101.out 1).trans rfl, (blk_cell BK101.out 2).trans rfl, (blk_cell BK101.out 3).trans rfl, (blk_cell BK101.out 4).trans rfl⟩ (fun hHeld => ?_); refine with_tabW hawserlaw16_ConfigSettings.tab1 hawserlaw16_ConfigSettings.bits1 (fun HT_ HW_ => ?_)
  generalize w5.drew = w6 at BK101 HB hHeld ⊢
  refine pure_ (i := 3) (N := some 6) (v := ?_) (a' := ?_) #[false, false, false, true, false, false, false, false, false, false, false, false, false, false, false, false] rfl rfl (any_of HT_.out (by kernel_rfl)) (fun _ _ _ h => h) (Or.inl ⟨by rfl, ?_⟩) ?_ ?_
  rotate_left
  · intro w'
    go_simp
    with_reducible rfl
  rotate_left
  · simp only [Act.put, List.setIfInBounds_toArray, List.set_cons_zero, List.set_cons_succ, i64_w, i32_w]
    rfl
  refine pure_ (i := 5) (N := some 8) (v := ?_) (a' := ?_) #[false, false, false, true, false, true, false, false, false, false, false, false, false, false, false, false] rfl rfl (any_of HT_.out (by kernel_rfl)) (fun _ _ _ h => h) (Or.inl ⟨by rfl, ?_⟩) ?_ ?_
  rotate_left
  · intro w'
    go_simp
    with_reducible rfl
  rotate_left
  · simp only [Act.put, List.setIfInBounds_toArray, List.set_cons_zero, List.set_cons_succ, i64_w, i32_w]
    rfl
  refine pure_ (i := 7) (N := some 10) (v := ?_) (a' := ?_) #[false, false, false, true, false, true, false, true, false, false, false, false, false, false, false, false] rfl rfl (any_of HT_.out (by kernel_rfl)) (fun _ _ _ h => h) (Or.inl ⟨by rfl, ?_⟩) ?_ ?_
  rotate_left
  · intro w'
    go_simp
    with_reducible rfl
  rotate_left
  · simp only [Act.put, List.setIfInBounds_toArray, List.set_cons_zero, List.set_cons_succ, i64_w, i32_w]
    rfl
  refine pure_ (i := 9) (N := some 12) (v := ?_) (a' := ?_) #[false, false, false, true, false, true, false, true, false, true, false, false, false, false, false, false] rfl rfl (any_of HT_.out (by kernel_rfl)) (fun _ _ _ h => h) (Or.inl ⟨by rfl, ?_⟩) ?_ ?_
  rotate_left
  · intro w'
    go_simp
    with_reducible rfl
  rotate_left
  · simp only [Act.put, List.setIfInBounds_toArray, List.set_cons_zero, List.set_cons_succ, i64_w, i32_w]
    rfl
  refine pure_ (i := 11) (N := some 14) (v := ?_) (a' := ?_) #[false, false, false, true, false, true, false, true, false, true, false, true, false, false, false, false] rfl rfl (any_of HT_.out (by kernel_rfl)) (fun _ _ _ h => h) (Or.inl ⟨by rfl, ?_⟩) ?_ ?_
  rotate_left
  · intro w'
    go_simp
    with_reducible rfl
  rotate_left
  · simp only [Act.put, List.setIfInBounds_toArray, List.set_cons_zero, List.set_cons_succ, i64_w, i32_w]
    rfl
  refine take_ (i := 0) (N := some 3) (v := ?_) (a' := ?_) #[true, false, false, true, false, true, false, true, false, true, false, true, false, false, false, false] rfl rfl (take_ofW HT_.out HW_.out (by kernel_rfl)) (fun _ _ _ h => h) (Or.inl ⟨by rfl, ?_⟩) hHeld ?_ ?_
  rotate_left
  · rintro w' ⟨s0, s1, s2, s3, s4⟩
    go_simp
    with_reducible rfl
  rotate_left
  · simp only [Act.put, List.setIfInBounds_toArray, List.set_cons_zero, List.set_cons_succ, i64_w, i32_w]
    rfl
  refine take_ (i := 4) (N := some 7) (v := ?_) (a' := ?_) #[true, false, false, true, true, true, false, true, false, true, false, true, false, false, false, false] rfl rfl (take_ofW HT_.out HW_.out (by kernel_rfl)) (fun _ _ _ h => h) (Or.inl ⟨by rfl, ?_⟩) hHeld ?_ ?_
  rotate_left
  · rintro w' ⟨s0, s1, s2, s3, s4⟩
    go_simp
    with_reducible rfl
  rotate_left
  · simp only [Act.put, List.setIfInBounds_toArray, List.set_cons_zero, List.set_cons_succ, i64_w, i32_w]
    rfl
  refine take_ (i := 6) (N := some 9) (v := ?_) (a' := ?_) #[true, false, false, true, true, true, true, true, false, true, false, true, false, false, false, false] rfl rfl (take_ofW HT_.out HW_.out (by kernel_rfl)) (fun _ _ _ h => h) (Or.inl ⟨by rfl, ?_⟩) hHeld ?_ ?_
  rotate_left
  · rintro w' ⟨s0, s1, s2, s3, s4⟩
    go_simp
    with_reducible rfl
  rotate_left
  · simp only [Act.put, List.setIfInBounds_toArray, List.set_cons_zero, List.set_cons_succ, i64_w, i32_w]
    rfl
  refine take_ (i := 8) (N := some 11) (v := ?_) (a' := ?_) #[true, false, false, true, true, true, true, true, true, true, false, true, false, false, false, false] rfl rfl (take_ofW HT_.out HW_.out (by kernel_rfl)) (fun _ _ _ h => h) (Or.inl ⟨by rfl, ?_⟩) hHeld ?_ ?_
  rotate_left
  · rintro w' ⟨s0, s1, s2, s3, s4⟩
    go_simp
    with_reducible rfl
  rotate_left
  · simp only [Act.put, List.setIfInBounds_toArray, List.set_cons_zero, List.set_cons_succ, i64_w, i32_w]
    rfl
  refine take_ (i := 10) (N := some 13) (v := ?_) (a' := ?_) #[true, false, false, true, true, true, true, true, true, true, true, true, false, false, false, false] rfl rfl (take_ofW HT_.out HW_.out (by kernel_rfl)) (fun _ _ _ h => h) (Or.inl ⟨by rfl, ?_⟩) hHeld ?_ ?_
  rotate_left
  · rintro w' ⟨s0, s1, s2, s3, s4⟩
    go_simp
    with_reducible rfl
  rotate_left
  · simp only [Act.put, List.setIfInBounds_toArray, List.set_cons_zero, List.set_cons_succ, i64_w, i32_w]
    rfl
  refine take_ (i := 12) (N := some 15) (v := ?_) (a' := ?_) #[true, false, false, true, true, true, true, true, true, true, true, true, true, false, false, false] rfl rfl (take_ofW HT_.out HW_.out (by kernel_rfl)) (fun _ _ _ h => h) (Or.inl ⟨by rfl, ?_⟩) hHeld ?_ ?_
  rotate_left
  · rintro w' ⟨s0, s1, s2, s3, s4⟩
    go_simp
    with_reducible rfl
  rotate_left
  · simp only [Act.put, List.setIfInBounds_toArray, List.set_cons_zero, List.set_cons_succ, i64_w, i32_w]
    rfl
  refine one_ (i := 1) (N := some 4) #[true, true, false, true, true, true, true, true, true, true, true, true, true, false, false, false] rfl rfl (one_of HT_.out (by kernel_rfl)) (by decide) (fun K hK => ?_)
  refine goes_ Try.func15 (by kernel_rfl) rfl #[.agg #[.int .i64 a0_0, .int .i64 a0_1, .int .i64 a0_2, .int .i64 a0_3, .int .i64 a0_4]] (by rfl) rfl rfl (by (try simp only [List.map_toArray, List.map_cons, List.map_nil]); first | done | rfl | (simp only [List.length_drop, List.length_take]; rfl)) ?_
  with_reducible refine (config_Settings.calls a0_0 a0_1 a0_2 a0_3 a0_4 t102 _ A2.out).mono ?_
  rintro e w7 ⟨rfl, hb⟩
  refine ⟨_, rfl, ?_⟩
  have n0_ := Aside0.mk (blk_below (g := gb101) (o := .cells #[.int .i64 a0_0, .int .i64 a0_1, .int .i64 a0_2, .int .i64 a0_3, .int .i64 a0_4] 23 (0, 0)) (by (with_reducible repeat (first | refine blk_drewN ?_ _ | refine blk_drew ?_ | refine blk_alloc ?_ _)); exact BK101.out) hb)
  have n1_ := Aside0.mk (below_step (by repeat (first | (with_reducible first | exact HB.out | apply below_alloc | apply pw_below_drewN | apply below_drew1 | refine below_set ?_ GE101.out) | exact HB.out)) hb)
  clear BK101
  clear HB
  have BK101 := n0_
  have HB := n1_
  clear n0_ n1_
  (try clear hb)
  (try clear hb2)
  (try clear hk)
  (try clear hi)
  refine hK.out _ _ ⟨(blk_cell BK101.out 0).trans rfl, (blk_cell BK101.out 1).trans rfl, (blk_cell BK101.out 2).trans rfl, (blk_cell BK101.out 3).trans rfl, (blk_cell BK101.out 4).trans rfl⟩ (fun hHeld => ?_)
  clear hK K
  refine norm_ (a' := ?_) ?_ ?_
  rotate_left
  · show Act.put _ (some 4) _ = _
    simp only [Act.put, List.setIfInBounds_toArray, List.set_cons_zero, List.set_cons_succ, i64_w, i32_w]
    rfl
  refine one_ (i := 2) (N := some 5) #[true, true, true, true, true, true, true, true, true, true, true, true, true, false, false, false] rfl rfl (one_of HT_.out (by kernel_rfl)) (by decide) (fun K hK => ?_)
  refine goes_ Try.func14 (by kernel_rfl) rfl #[.int .i64 t102] (by rfl) rfl rfl (by (try simp only [List.map_toArray, List.map_cons, List.map_nil]); first | done | rfl | (simp only [List.length_drop, List.length_take]; rfl)) ?_
  with_reducible refine (hawserlaw16_num.calls t102 t103 _ A3.out).mono ?_
  rintro e w' ⟨rfl, ⟨nd, rfl⟩⟩
  refine ⟨_, rfl, ?_⟩
  refine hK.out _ _ ⟨(blk_cell BK101.out 0).trans rfl, (blk_cell BK101.out 1).trans rfl, (blk_cell BK101.out 2).trans rfl, (blk_cell BK101.out 3).trans rfl, (blk_cell BK101.out 4).trans rfl⟩ (fun hHeld => ?_)
  clear hK K
  refine norm_ (a' := ?_) ?_ ?_
  rotate_left
  · show Act.put _ (some 5) _ = _
    simp only [Act.put, List.setIfInBounds_toArray, List.set_cons_zero, List.set_cons_succ, i64_w, i32_w]
    rfl
  refine one_ (i := 13) (N := some 16) #[true, true, true, true, true, true, true, true, true, true, true, true, true, true, false, false] rfl rfl (one_of HT_.out (by kernel_rfl)) (by decide) (fun K hK => ?_)
  refine goes_ Try.func16 (by kernel_rfl) rfl #[.int .i64 a0_0, .int .i64 a0_1, .int .i64 a0_2, .int .i64 a0_3, .int .i64 a0_4] (by rfl) rfl rfl (by (try simp only [List.map_toArray, List.map_cons, List.map_nil]); first | done | rfl | (simp only [List.length_drop, List.length_take]; rfl)) ?_
  with_reducible refine (hawserref16_Settings.calls a0_0 a0_1 a0_2 a0_3 a0_4 t104 _ A4.out).mono ?_
  rintro e w' ⟨rfl, ⟨nd, rfl⟩⟩
  refine ⟨_, rfl, ?_⟩
  refine hK.out _ _ ⟨(blk_cell BK101.out 0).trans rfl, (blk_cell BK101.out 1).trans rfl, (blk_cell BK101.out 2).trans rfl, (blk_cell BK101.out 3).trans rfl, (blk_cell BK101.out 4).trans rfl⟩ (fun hHeld => ?_)
  clear hK K
  refine norm_ (a' := ?_) ?_ ?_
  rotate_left
  · show Act.put _ (some 16) _ = _
    simp only [Act.put, List.setIfInBounds_toArray, List.set_cons_zero, List.set_cons_succ, i64_w, i32_w]
    rfl
  refine pure_ (i := 14) (N := some 17) (v := ?_) (a' := ?_) #[true, true, true, true, true, true, true, true, true, true, true, true, true, true, true, false] rfl rfl (any_of HT_.out (by kernel_rfl)) (fun _ _ _ h => h) (Or.inl ⟨by rfl, ?_⟩) ?_ ?_
  rotate_left
  · intro w'
    go_simp
    with_reducible rfl
  rotate_left
  · simp only [Act.put, List.setIfInBounds_toArray, List.set_cons_zero, List.set_cons_succ, i64_w, i32_w]
    rfl
  refine pure_ (i := 15) (N := some 2) (v := ?_) (a' := ?_) #[true, true, true, true, true, true, true, true, true, true, true, true, true, true, true, true] rfl rfl (any_of HT_.out (by kernel_rfl)) (fun _ _ _ h => h) (Or.inl ⟨by rfl, ?_⟩) ?_ ?_
  rotate_left
  · intro w'
    go_simp
    with_reducible rfl
  rotate_left
  · simp only [Act.put, List.setIfInBounds_toArray, List.set_cons_zero, List.set_cons_succ, i64_w, i32_w]
    rfl
  refine done_ (done_of HT_.out (by kernel_rfl)) ?_
  try go_wp2
  go_ret
  exact ⟨by first | rfl | (simp [errW_none, errW_some] <;> rfl) | (simp [*, errW_none, errW_some] <;> rfl), by repeat (first | (with_reducible first | exact HB.out | apply below_alloc | apply pw_below_drewN | apply below_drew1 | refine below_set ?_ GE101.out) | exact HB.out)⟩

/-! ### config_places: function 48 -/
open Go.Proofs.Ytjhijklgpgdlaaa.Blocks
def plc : List Int → Nat → List Int → Option (List Int)
  | [], _, a => some a
  | n :: l, i, a => if n < 1 ∨ 8 < n ∨ 0 < a.getD n.toNat 0 then none else plc l (i + 1) (a.set n.toNat ((i : Int) + 1))
def zeros9 : List Int := [0, 0, 0, 0, 0, 0, 0, 0, 0]
def plcRes (l : List Int) : Value := match plc l 0 zeros9 with
  | some a => .tuple #[.agg (nums .i64 a).toArray, .bool true]
  | none => .tuple #[.agg (nums .i64 zeros9).toArray, .bool false]
theorem results_cell_tmp {P : Program} {fn : Func} {p q : Tmp} {ty : TypeId} (h : fn.results = #[.cell p ty, .tmp q]) (tmps : Array Value) (w : World) (g : Nat) (t : TypeId) (cs : Array Value) (fr : Nat × Nat) (d : TypeDesc)
    (hp : tmps.getD p undef = .pointer (some ⟨g, 0, none⟩)) (hg : w.heap[g]? = some (.cells cs t fr))
    (hu : P.underlying ty = some d) (hd : (match d with | .struct _ | .array _ _ => true | _ => false) = true) (hi : (P.info? ty).map (·.size) = some cs.size) (v : Value) (hv : tmps.getD q undef = v) :
    (results fn tmps).run P w = .ok (.tuple #[.agg cs, v]) w := by
  have hp' : tmps[p]?.getD undef = .pointer (some ⟨g, 0, none⟩) := by simpa using hp
  have hv' : tmps[q]?.getD undef = v := by simpa using hv
  simp [results, h, hp', hv', asAddr, run_loadVar_row w g t ty cs fr d hg hu hd hi]
theorem nine {a : List Int} (h : a.length = 9) : ∃ a0 a1 a2 a3 a4 a5 a6 a7 a8, a = [a0, a1, a2, a3, a4, a5, a6, a7, a8] := by
  match a, h with
  | [a0, a1, a2, a3, a4, a5, a6, a7, a8], _ => exact ⟨_, _, _, _, _, _, _, _, _, rfl⟩
theorem nums_at (k : IntKind) (a : List Int) (i : Nat) (h : i < a.length) : (nums k a).toArray[i]? = some (.int k (a.getD i 0)) := by
  simp [nums, List.getElem?_eq_getElem h, List.getD_eq_getElem?_getD]
set_option maxHeartbeats 3200000 in
theorem places_walk (A0 : Option Addr) (c0 : Nat) (l0 : List Int) (w : World) (hr0 : Kd.C (Kd.int .i64) w A0 l0.length l0) (hc0 : l0.length ≤ c0) (hn : l0.length ≤ 1099511627776) :
    Calls Try.prog 48 #[.slice A0 l0.length c0] w fun e w' => e = .returned (plcRes l0) ∧ Below w.heap.size w w' := by
  have HR0 := Aside0.mk hr0
  have HC0 := Aside0.mk hc0
  clear hr0 hc0
  have hu67 := Try.underlying67
  go_enter Try.func48, Try.ntmps48
  go_wp2
  go_loopw [9] (fun v wr => ∃ (k : Nat) (a : List Int), k ≤ l0.length ∧ v = .int .i64 k ∧ a.length = 9 ∧ Hid (plc l0 0 zeros9 = plc (l0.drop k) k a) ∧ Hid (wr.heap[w.heap.size]? = some (.cells (nums .i64 zeros9).toArray 67 (0, 0))) ∧ Hid (wr.heap[w.heap.size + 1]? = some (.cells (nums .i64 a).toArray 67 (0, 0))) ∧ Below w.heap.size w wr) (fun v _ => l0.length - (intOf v).toNat)
  case atStart =>
    refine ⟨0, zeros9, by omega, rfl, rfl, rfl, ?_, ?_, ((Below.refl _ _).alloc (Nat.le_refl _) _).alloc (by simp) _⟩
    · show ((w.alloc _).alloc _).heap[w.heap.size]? = _
      rw [Below.heap_alloc _ _ _ (by simp), heap_alloc_new]
      rfl
    · have := heap_alloc_new (w.alloc (.cells (nums .i64 zeros9).toArray 67)) (.cells (nums .i64 zeros9).toArray 67)
      rw [World.size_alloc] at this
      exact this
  case round =>
    obtain ⟨k, a, hk, rfl, ha, hp, hz, hh, hb⟩ := hrel
    have HSZ : Hid ((Try.prog.info? 67).map (·.size) = some 9) := by show (Try.prog.info? 67).map (·.size) = some 9; kernel_rfl
    have HU : Hid (Try.prog.underlying 67 = some (.array 9 3)) := hu67
    by_cases hlt : k < l0.length
    · obtain ⟨n, hn'⟩ : ∃ n, n = rd l0 k := ⟨_, rfl⟩
      obtain ⟨ad, e, hcell⟩ := Kd.at_int (Kd.C_below HR0.out hb) (k : Int) (by omega) (by omega)
      rw [← hn', Int.toNat_natCast] at hcell
      cases e
      have HD : Hid (l0.drop k = n :: l0.drop (k + 1)) := by
        show l0.drop k = n :: l0.drop (k + 1)
        rw [List.drop_eq_getElem_cons hlt]
        congr 1
        rw [hn']
        simp [rd, List.getD_eq_getElem?_getD, List.getElem?_eq_getElem hlt]
      clear hn'
      have hkl : (k : Int) < (l0.length : Int) := by omega
      have bad : (n < 1 ∨ 8 < n ∨ 0 < a.getD n.toNat 0) → Hid (plcRes l0 = .tuple #[.agg (nums .i64 zeros9).toArray, .bool false]) := by
        intro h
        show plcRes l0 = _
        unfold plcRes
        rw [hp.out, HD.out, plc, if_pos h]
      have ok : ¬ (n < 1 ∨ 8 < n ∨ 0 < a.getD n.toNat 0) → Hid (plc l0 0 zeros9 = plc (l0.drop (k + 1)) (k + 1) (a.set n.toNat ((k : Int) + 1))) := by
        intro h
        show plc l0 0 zeros9 = _
        rw [hp.out, HD.out, plc, if_neg h]
      by_cases h1 : n < 1
      · have hbad := bad (.inl h1)
        clear bad ok
        go_wp2_with ((with_reducible refine wpList_store_row rfl 67 (.tmp 2) (.tmp 26) rfl w.heap.size #[.int .i64 0, .int .i64 0, .int .i64 0, .int .i64 0, .int .i64 0, .int .i64 0, .int .i64 0, .int .i64 0, .int .i64 0] ?d1 ?d2 67 #[.int .i64 0, .int .i64 0, .int .i64 0, .int .i64 0, .int .i64 0, .int .i64 0, .int .i64 0, .int .i64 0, .int .i64 0] ?c1 ?c2 ?c4 ?c3 ?_); (case d1 => rfl); (case d2 => rfl); (case c1 => exact hz.out); (case c2 => exact HSZ.out); (case c3 => simp [Value.oneCell']); (case c4 => rfl))
        exact bodyPost_ret (results_cell_tmp (q := 3) rfl _ _ w.heap.size 67 _ (0, 0) _ rfl (setRow_heap wr w.heap.size _ _ 67 (0, 0) hz.out) HU.out rfl (by exact HSZ.out) _ rfl) rfl ⟨by rw [hbad.out]; rfl, below_setRow hb (Nat.le_refl _) _⟩
      · have b1 : decide (n < 1) = false := decide_eq_false h1
        by_cases h2 : 8 < n
        · have hbad := bad (.inr (.inl h2))
          clear bad ok
          have b2 : decide (8 < n) = true := decide_eq_true h2
          go_wp2_with ((with_reducible refine wpList_store_row rfl 67 (.tmp 2) (.tmp 26) rfl w.heap.size #[.int .i64 0, .int .i64 0, .int .i64 0, .int .i64 0, .int .i64 0, .int .i64 0, .int .i64 0, .int .i64 0, .int .i64 0] ?d1 ?d2 67 #[.int .i64 0, .int .i64 0, .int .i64 0, .int .i64 0, .int .i64 0, .int .i64 0, .int .i64 0, .int .i64 0, .int .i64 0] ?c1 ?c2 ?c4 ?c3 ?_); (case d1 => rfl); (case d2 => rfl); (case c1 => exact hz.out); (case c2 => exact HSZ.out); (case c3 => simp [Value.oneCell']); (case c4 => rfl))
          exact bodyPost_ret (results_cell_tmp (q := 3) rfl _ _ w.heap.size 67 _ (0, 0) _ rfl (setRow_heap wr w.heap.size _ _ 67 (0, 0) hz.out) HU.out rfl (by exact HSZ.out) _ rfl) rfl ⟨by rw [hbad.out]; rfl, below_setRow hb (Nat.le_refl _) _⟩
        · have b2 : decide (8 < n) = false := decide_eq_false h2
          have p0 : 0 ≤ n := by omega
          have p9 : n < 9 := by omega
          obtain ⟨x, hx⟩ : ∃ x, x = a.getD n.toNat 0 := ⟨_, rfl⟩
          have hac : wr.cell? ⟨w.heap.size + 1, n.toNat, none⟩ = some (.int .i64 x) := by
            rw [blk_cell hh.out, nums_at _ _ _ (by omega), hx]
          have haf := blk_frozen hh.out n.toNat
          by_cases h3 : 0 < x
          · have hbad := bad (.inr (.inr (by rw [← hx]; exact h3)))
            clear bad ok
            have b3 : decide (0 < x) = true := decide_eq_true h3
            clear hx
            go_wp2_with ((with_reducible refine wpList_store_row rfl 67 (.tmp 2) (.tmp 26) rfl w.heap.size #[.int .i64 0, .int .i64 0, .int .i64 0, .int .i64 0, .int .i64 0, .int .i64 0, .int .i64 0, .int .i64 0, .int .i64 0] ?d1 ?d2 67 #[.int .i64 0, .int .i64 0, .int .i64 0, .int .i64 0, .int .i64 0, .int .i64 0, .int .i64 0, .int .i64 0, .int .i64 0] ?c1 ?c2 ?c4 ?c3 ?_); (case d1 => rfl); (case d2 => rfl); (case c1 => exact hz.out); (case c2 => exact HSZ.out); (case c3 => simp [Value.oneCell']); (case c4 => rfl))
            exact bodyPost_ret (results_cell_tmp (q := 3) rfl _ _ w.heap.size 67 _ (0, 0) _ rfl (setRow_heap wr w.heap.size _ _ 67 (0, 0) hz.out) HU.out rfl (by exact HSZ.out) _ rfl) rfl ⟨by rw [hbad.out]; rfl, below_setRow hb (Nat.le_refl _) _⟩
          · have hok := ok (by rw [← hx]; omega)
            clear bad ok
            have b3 : decide (0 < x) = false := decide_eq_false h3
            clear hx
            go_wp2
            go_roundw
            case rel =>
              refine ⟨k + 1, a.set n.toNat ((k : Int) + 1), by omega, by go_num, by rw [List.length_set]; exact ha, hok, ?_, ?_, hb.setCell (by simp) _⟩
              · exact blk_far hz.out (by simp) _
              · have := blk_set hh.out n.toNat (.int .i64 ((k : Int) + 1))
                rw [nums_set] at this
                exact this
            case measure => simp [intOf]; omega
    · have hkk : k = l0.length := by omega
      subst hkk
      have hres : Hid (plcRes l0 = .tuple #[.agg (nums .i64 a).toArray, .bool true]) := by
        show plcRes l0 = _
        unfold plcRes
        rw [hp.out, List.drop_length, plc]
      clear hp
      obtain ⟨a0, a1, a2, a3, a4, a5, a6, a7, a8, rfl⟩ := nine ha
      go_wp2_with (first | ((with_reducible refine wpList_load_row rfl 67 (.tmp 4) rfl (w.heap.size + 1) ?e1 67 #[.int .i64 a0, .int .i64 a1, .int .i64 a2, .int .i64 a3, .int .i64 a4, .int .i64 a5, .int .i64 a6, .int .i64 a7, .int .i64 a8] (0, 0) (.array 9 3) ?e2 ?e3 ?e4 ?e5 ?_); (case e1 => rfl); (case e2 => exact hh.out); (case e3 => exact HU.out); (case e4 => rfl); (case e5 => exact HSZ.out)) | ((with_reducible refine wpList_store_row rfl 67 (.tmp 2) (.tmp 32) rfl w.heap.size #[.int .i64 a0, .int .i64 a1, .int .i64 a2, .int .i64 a3, .int .i64 a4, .int .i64 a5, .int .i64 a6, .int .i64 a7, .int .i64 a8] ?d1 ?d2 67 #[.int .i64 0, .int .i64 0, .int .i64 0, .int .i64 0, .int .i64 0, .int .i64 0, .int .i64 0, .int .i64 0, .int .i64 0] ?c1 ?c2 ?c4 ?c3 ?_); (case d1 => rfl); (case d2 => rfl); (case c1 => exact hz.out); (case c2 => exact HSZ.out); (case c3 => simp [Value.oneCell']); (case c4 => rfl)))
      exact bodyPost_ret (results_cell_tmp (q := 3) rfl _ _ w.heap.size 67 _ (0, 0) _ rfl (setRow_heap wr w.heap.size _ _ 67 (0, 0) hz.out) HU.out rfl (by exact HSZ.out) _ rfl) rfl ⟨by rw [hres.out]; rfl, below_setRow hb (Nat.le_refl _) _⟩

end Go.Proofs.Ytjhijklgpgdlaaa.G
