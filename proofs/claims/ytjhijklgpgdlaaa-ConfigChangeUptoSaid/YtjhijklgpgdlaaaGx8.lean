-- Written for this claim by a program of this session (wip/xprint.py), by means of the kit's print. Not trusted: Lean checks it.
import Derived.Test.YtjhijklgpgdlaaaGx0
import Derived.Test.YtjhijklgpgdlaaaGx1
import Derived.Test.YtjhijklgpgdlaaaGx2
import Derived.Test.YtjhijklgpgdlaaaGx3
import Derived.Test.YtjhijklgpgdlaaaGx5
import Derived.Test.YtjhijklgpgdlaaaGx6
import Derived.Test.YtjhijklgpgdlaaaGx7
namespace Go.Proofs.Ytjhijklgpgdlaaa.G
open Go.RowKit Go.Proofs.YtjhijklgpgdlaaaW.PrintWords Go.Proofs.YtjhijklgpgdlaaaW.PrintLast Go.Proofs.YtjhijklgpgdlaaaW.PrintMore
attribute [local go_sem] max2_int min2_int max_two min_two max_three min_three max_four min_four   -- for this text's walks alone
set_option linter.unusedVariables false
set_option linter.unusedSimpArgs false

/-! ### hawserlaw16_ConfigChange: function 12 -/
mutual
def hawserlaw16_ConfigChange.l0 : Nat → List Int → Int → Int → List Int → Option (Bool)
  | 0, _, _, _, _ => none
  | k + 1, x1, x7, x217000, x217001 => if x7 < (x1.length : Int) then (if 0 ≤ x7 then ((config_Without.f x217000 x217001 (rd x1 x7)).bind fun bt219 => (if bt219.2.2 = 0 then (hawserlaw16_ConfigChange.j1 k x1 x7 bt219.2.2 x217000 x217001 bt219.1 bt219.2.1) else ((config_With.f k x217000 x217001 (rd x1 x7)).bind fun bt226 => (hawserlaw16_ConfigChange.j1 k x1 x7 bt226.2.2 x217000 x217001 bt226.1 bt226.2.1)))) else (none)) else ((config_Check.f x217000 x217001).bind fun t217 => (some (t217 == 0)))
def hawserlaw16_ConfigChange.j1 : Nat → List Int → Int → Int → Int → List Int → Int → List Int → Option (Bool)
  | 0, _, _, _, _, _, _, _ => none
  | k + 1, x1, x7, x9, x217000, x217001, x225000, x225001 => if x9 = 0 then ((config_Follows.f k x217000 x217001 x225000 x225001).bind fun t231 => (if t231 = true then ((config_Follows.f k x225000 x225001 x217000 x217001).bind fun t232 => (if t232 = true then (hawserlaw16_ConfigChange.j2 k x1 x7 true x217000 x217001 x225000 x225001) else (if x225000 = (wrap64 (x217000 + 1)) then ((hawserlaw16_ordered.f k x217001 x225001).bind fun t233 => (hawserlaw16_ConfigChange.j2 k x1 x7 (!t233) x217000 x217001 x225000 x225001)) else (hawserlaw16_ConfigChange.j2 k x1 x7 true x217000 x217001 x225000 x225001)))) else (hawserlaw16_ConfigChange.j2 k x1 x7 true x217000 x217001 x225000 x225001))) else (hawserlaw16_ConfigChange.l0 k x1 (wrap64 (x7 + 1)) x217000 x217001)
def hawserlaw16_ConfigChange.j2 : Nat → List Int → Int → Bool → Int → List Int → Int → List Int → Option (Bool)
  | 0, _, _, _, _, _, _, _ => none
  | k + 1, x1, x7, x72, x217000, x217001, x225000, x225001 => if x72 = true then (none) else (if (x225001.length : Int) > (x217001.length : Int) then (if 0 ≤ x7 then (if x7 < (x1.length : Int) then ((config_Without.f x225000 x225001 (rd x1 x7)).bind fun bt235 => (if bt235.2.2 = 0 then ((config_Alike.f k x217000 bt235.2.1 x217000 x217001).bind fun t241 => (if t241 = true then (hawserlaw16_ConfigChange.l0 k x1 (wrap64 (x7 + 1)) x225000 x225001) else (none))) else (none))) else (none)) else (none)) else (hawserlaw16_ConfigChange.l0 k x1 (wrap64 (x7 + 1)) x225000 x225001))
end
def hawserlaw16_ConfigChange.f (k : Nat) (l0 : List Int) (l1 : List Int) : Option (Bool) := (hawserlaw16_may.f k l0).bind fun t208 => ((config_First.f t208).bind fun bt211 => (if bt211.2.2 = 0 then (hawserlaw16_ConfigChange.l0 k l1 0 bt211.1 bt211.2.1) else (none)))
theorem hawserlaw16_ConfigChange.mono_l : ∀ k, (∀ y0 y1 y2 y3, LeO (hawserlaw16_ConfigChange.l0 k y0 y1 y2 y3) (hawserlaw16_ConfigChange.l0 (k + 1) y0 y1 y2 y3)) ∧ (∀ y0 y1 y2 y3 y4 y5 y6, LeO (hawserlaw16_ConfigChange.j1 k y0 y1 y2 y3 y4 y5 y6) (hawserlaw16_ConfigChange.j1 (k + 1) y0 y1 y2 y3 y4 y5 y6)) ∧ (∀ y0 y1 y2 y3 y4 y5 y6, LeO (hawserlaw16_ConfigChange.j2 k y0 y1 y2 y3 y4 y5 y6) (hawserlaw16_ConfigChange.j2 (k + 1) y0 y1 y2 y3 y4 y5 y6))
  | 0 => ⟨fun _ _ _ _ r h => by simp [hawserlaw16_ConfigChange.l0] at h, fun _ _ _ _ _ _ _ r h => by simp [hawserlaw16_ConfigChange.j1] at h, fun _ _ _ _ _ _ _ r h => by simp [hawserlaw16_ConfigChange.j2] at h⟩
  | k + 1 => by
    obtain ⟨ih0, ih1, ih2⟩ := hawserlaw16_ConfigChange.mono_l k
    refine ⟨?_, ?_, ?_⟩
    · intro y0 y1 y2 y3
      unfold hawserlaw16_ConfigChange.l0
      repeat' first
      | (with_reducible exact ih0 _ _ _ _)
      | (with_reducible exact ih1 _ _ _ _ _ _ _)
      | (with_reducible exact ih2 _ _ _ _ _ _ _)
      | (with_reducible exact config_Alike.mono _ _ _ _ _)
      | (with_reducible exact config_Follows.mono _ _ _ _ _)
      | (with_reducible exact config_With.mono _ _ _ _)
      | (with_reducible exact hawserlaw16_may.mono _ _)
      | (with_reducible exact hawserlaw16_ordered.mono _ _ _)
      | (with_reducible exact LeO.refl _)
      | (with_reducible exact LeO.none _)
      | (with_reducible refine LeO.ite ?_ ?_)
      | (with_reducible refine LeO.bind ?_ (fun _ => ?_))
      | exact ih0 _ _ _ _
      | exact ih1 _ _ _ _ _ _ _
      | exact ih2 _ _ _ _ _ _ _
      | exact config_Alike.mono _ _ _ _ _
      | exact config_Follows.mono _ _ _ _ _
      | exact config_With.mono _ _ _ _
      | exact hawserlaw16_may.mono _ _
      | exact hawserlaw16_ordered.mono _ _ _
      | exact LeO.none _
      | refine LeO.ite ?_ ?_
      | refine LeO.bind ?_ (fun _ => ?_)
    · intro y0 y1 y2 y3 y4 y5 y6
      unfold hawserlaw16_ConfigChange.j1
      repeat' first
      | (with_reducible exact ih0 _ _ _ _)
      | (with_reducible exact ih1 _ _ _ _ _ _ _)
      | (with_reducible exact ih2 _ _ _ _ _ _ _)
      | (with_reducible exact config_Alike.mono _ _ _ _ _)
      | (with_reducible exact config_Follows.mono _ _ _ _ _)
      | (with_reducible exact config_With.mono _ _ _ _)
      | (with_reducible exact hawserlaw16_may.mono _ _)
      | (with_reducible exact hawserlaw16_ordered.mono _ _ _)
      | (with_reducible exact LeO.refl _)
      | (with_reducible exact LeO.none _)
      | (with_reducible refine LeO.ite ?_ ?_)
      | (with_reducible refine LeO.bind ?_ (fun _ => ?_))
      | exact ih0 _ _ _ _
      | exact ih1 _ _ _ _ _ _ _
      | exact ih2 _ _ _ _ _ _ _
      | exact config_Alike.mono _ _ _ _ _
      | exact config_Follows.mono _ _ _ _ _
      | exact config_With.mono _ _ _ _
      | exact hawserlaw16_may.mono _ _
      | exact hawserlaw16_ordered.mono _ _ _
      | exact LeO.none _
      | refine LeO.ite ?_ ?_
      | refine LeO.bind ?_ (fun _ => ?_)
    · intro y0 y1 y2 y3 y4 y5 y6
      unfold hawserlaw16_ConfigChange.j2
      repeat' first
      | (with_reducible exact ih0 _ _ _ _)
      | (with_reducible exact ih1 _ _ _ _ _ _ _)
      | (with_reducible exact ih2 _ _ _ _ _ _ _)
      | (with_reducible exact config_Alike.mono _ _ _ _ _)
      | (with_reducible exact config_Follows.mono _ _ _ _ _)
      | (with_reducible exact config_With.mono _ _ _ _)
      | (with_reducible exact hawserlaw16_may.mono _ _)
      | (with_reducible exact hawserlaw16_ordered.mono _ _ _)
      | (with_reducible exact LeO.refl _)
      | (with_reducible exact LeO.none _)
      | (with_reducible refine LeO.ite ?_ ?_)
      | (with_reducible refine LeO.bind ?_ (fun _ => ?_))
      | exact ih0 _ _ _ _
      | exact ih1 _ _ _ _ _ _ _
      | exact ih2 _ _ _ _ _ _ _
      | exact config_Alike.mono _ _ _ _ _
      | exact config_Follows.mono _ _ _ _ _
      | exact config_With.mono _ _ _ _
      | exact hawserlaw16_may.mono _ _
      | exact hawserlaw16_ordered.mono _ _ _
      | exact LeO.none _
      | refine LeO.ite ?_ ?_
      | refine LeO.bind ?_ (fun _ => ?_)
theorem hawserlaw16_ConfigChange.mono : ∀ a0 a1 k, LeO (hawserlaw16_ConfigChange.f k a0 a1) (hawserlaw16_ConfigChange.f (k + 1) a0 a1) := by
  intro a0 a1 k
  obtain ⟨ih0, ih1, ih2⟩ := hawserlaw16_ConfigChange.mono_l k
  unfold hawserlaw16_ConfigChange.f
  repeat' first
      | (with_reducible exact ih0 _ _ _ _)
      | (with_reducible exact ih1 _ _ _ _ _ _ _)
      | (with_reducible exact ih2 _ _ _ _ _ _ _)
      | (with_reducible exact config_Alike.mono _ _ _ _ _)
      | (with_reducible exact config_Follows.mono _ _ _ _ _)
      | (with_reducible exact config_With.mono _ _ _ _)
      | (with_reducible exact hawserlaw16_may.mono _ _)
      | (with_reducible exact hawserlaw16_ordered.mono _ _ _)
      | (with_reducible exact LeO.refl _)
      | (with_reducible exact LeO.none _)
      | (with_reducible refine LeO.ite ?_ ?_)
      | (with_reducible refine LeO.bind ?_ (fun _ => ?_))
      | exact ih0 _ _ _ _
      | exact ih1 _ _ _ _ _ _ _
      | exact ih2 _ _ _ _ _ _ _
      | exact config_Alike.mono _ _ _ _ _
      | exact config_Follows.mono _ _ _ _ _
      | exact config_With.mono _ _ _ _
      | exact hawserlaw16_may.mono _ _
      | exact hawserlaw16_ordered.mono _ _ _
      | exact LeO.none _
      | refine LeO.ite ?_ ?_
      | refine LeO.bind ?_ (fun _ => ?_)
def hawserlaw16_ConfigChange.T7 : Bool × List (List Nat × List Nat) := (true, [([], []), ([], []), ([], []), ([1, 2], [1, 2]), ([3], [3]), ([0, 4], [0, 4]), ([5], [5]), ([6], [6]), ([6], [6]), ([], []), ([9, 7, 5, 0, 1, 2, 3, 4, 5, 6, 7, 9], [7, 9]), ([8, 10, 0, 1, 2, 3, 4, 5, 6, 7, 8, 9, 10], [8])])
def hawserlaw16_ConfigChange.B7 : List Nat := [0, 0, 0, 6, 14, 31, 63, 127, 127, 0, 767, 2047]
theorem hawserlaw16_ConfigChange.tab7 : rtab .any (opsOf Try.f12 7) = hawserlaw16_ConfigChange.T7 := by kernel_rfl
theorem hawserlaw16_ConfigChange.bits7 : waitsOk hawserlaw16_ConfigChange.T7.2 hawserlaw16_ConfigChange.B7 = true := by kernel_rfl
def hawserlaw16_ConfigChange.T9 : Bool × List (List Nat × List Nat) := (true, [([], []), ([], []), ([], []), ([1, 2], [1, 2]), ([3], [3]), ([0, 4], [0, 4]), ([5], [5]), ([6], [6]), ([6], [6]), ([7, 5, 0, 1, 2, 3, 4, 5, 6, 7], [7]), ([8, 9, 0, 1, 2, 3, 4, 5, 6, 7, 8, 9], [8])])
def hawserlaw16_ConfigChange.B9 : List Nat := [0, 0, 0, 6, 14, 31, 63, 127, 127, 255, 1023]
theorem hawserlaw16_ConfigChange.tab9 : rtab .any (opsOf Try.f12 9) = hawserlaw16_ConfigChange.T9 := by kernel_rfl
theorem hawserlaw16_ConfigChange.bits9 : waitsOk hawserlaw16_ConfigChange.T9.2 hawserlaw16_ConfigChange.B9 = true := by kernel_rfl
def hawserlaw16_ConfigChange.T14 : Bool × List (List Nat × List Nat) := (true, [([], []), ([], []), ([], []), ([1, 2], [1, 2]), ([3], [3]), ([0, 4], [0, 4]), ([5], [5]), ([6], [6]), ([6], [6]), ([], []), ([9, 7, 5, 0, 1, 2, 3, 4, 5, 6, 7, 9], [7, 9]), ([8, 10, 0, 1, 2, 3, 4, 5, 6, 7, 8, 9, 10], [8])])
def hawserlaw16_ConfigChange.B14 : List Nat := [0, 0, 0, 6, 14, 31, 63, 127, 127, 0, 767, 2047]
theorem hawserlaw16_ConfigChange.tab14 : rtab .any (opsOf Try.f12 14) = hawserlaw16_ConfigChange.T14 := by kernel_rfl
theorem hawserlaw16_ConfigChange.bits14 : waitsOk hawserlaw16_ConfigChange.T14.2 hawserlaw16_ConfigChange.B14 = true := by kernel_rfl
set_option maxHeartbeats 8000000 in
set_option maxRecDepth 100000 in
theorem hawserlaw16_ConfigChange.calls (k : Nat) (A0 : Option Addr) (c0 : Nat) (l0 : List Int) (A1 : Option Addr) (c1 : Nat) (l1 : List Int) (r : Bool) (w : World) (hr0 : Kd.C (Kd.int .i64) w A0 l0.length l0) (hc0 : l0.length ≤ c0) (hr1 : Kd.C (Kd.int .i64) w A1 l1.length l1) (hc1 : l1.length ≤ c1) (h : hawserlaw16_ConfigChange.f k l0 l1 = some r) :
    Calls Try.prog 12 #[.slice A0 l0.length c0, .slice A1 l1.length c1] w fun e w' => e = .returned (.bool r) ∧ Below w.heap.size w w' := by
  have hu32 := Try.underlying32
  have HR0 := Aside0.mk hr0
  have HC0 := Aside0.mk hc0
  clear hr0 hc0
  have HR1 := Aside0.mk hr1
  have HC1 := Aside0.mk hc1
  clear hr1 hc1
  have HB := Aside0.mk (Below.refl w.heap.size w)
  have H : ((hawserlaw16_may.f k l0).bind fun t208 => ((config_First.f t208).bind fun bt211 => (if bt211.2.2 = 0 then (hawserlaw16_ConfigChange.l0 k l1 0 bt211.1 bt211.2.1) else (none)))) = some r := h
  clear h
  replace H := Option.bind_eq_some_iff.mp H
  obtain ⟨t208, A30, H⟩ := H
  replace H : ((config_First.f t208).bind fun bt211 => (if bt211.2.2 = 0 then (hawserlaw16_ConfigChange.l0 k l1 0 bt211.1 bt211.2.1) else (none))) = some r := H
  have A3 := Aside0.mk A30
  clear A30
  replace H := Option.bind_eq_some_iff.mp H
  obtain ⟨⟨t211, t212, t215⟩, A40, H⟩ := H
  replace H : (if t215 = 0 then (hawserlaw16_ConfigChange.l0 k l1 0 t211 t212) else (none)) = some r := H
  have A4 := Aside0.mk A40
  clear A40
  by_cases c5 : t215 = 0
  · rw [if_pos c5] at H
    have c5b0 : (t215 == 0) = true := beq_iff_eq.mpr c5
    have c5b1 : (t215 != 0) = false := bne_eq_false_iff_eq.mpr c5
    clear c5
    have H' := Aside0.mk H
    clear H
    go_enter Try.func12, Try.ntmps12
    go_wp2_with (first | ((with_reducible refine gate_callee (f := 38) rfl ?_); refine goesL_ (some 14) rfl rfl Try.func38 (by kernel_rfl) rfl #[.slice A0 l0.length c0] rfl (by (try simp only [List.map_toArray, List.map_cons, List.map_nil]); first | done | rfl | (simp only [List.length_drop, List.length_take]; rfl)) ?_; (with_reducible refine (hawserlaw16_may.calls k _ _ l0 t208 _ ?side1 ?side2 A3.out).mono ?_); (case side1 => repeat (first | exact HR0.out | (with_reducible refine Kd.C_alloc ?_ _) | (with_reducible refine Kd.C_drewN ?_ _) | (with_reducible refine Kd.C_drew ?_))); (case side2 => exact HC0.out); rintro e w6 ⟨v209, rfl, ho0, hb⟩; refine ⟨_, rfl, ?_⟩; have n0_ := Aside0.mk (Kd.R_lower ho0 (below_size (by repeat (first | (with_reducible first | exact HB.out | apply below_alloc | apply pw_below_drewN | apply below_drew1) | exact HB.out)))); have n1_ := Aside0.mk (below_step (by repeat (first | (with_reducible first | exact HB.out | apply below_alloc | apply pw_below_drewN | apply below_drew1) | exact HB.out)) hb); clear HB; have HO210 := n0_; have HB := n1_; clear n0_ n1_; (try clear hb); (try clear hb2); (try clear hk); (try clear hi); (try clear ho0); obtain ⟨Ao7, co7, eo7⟩ := Kd.R_slice HO210.out; subst eo7) | ((with_reducible refine gate_callee (f := 20) rfl ?_); refine goesL_ (some 15) rfl rfl Try.func20 (by kernel_rfl) rfl #[.slice Ao7 t208.length co7] rfl (by (try simp only [List.map_toArray, List.map_cons, List.map_nil]); first | done | rfl | (simp only [List.length_drop, List.length_take]; rfl)) ?_; (with_reducible refine (config_First.calls _ _ t208 t211 t212 t215 _ ?side1 ?side2 A4.out).mono ?_); (case side1 => repeat (first | exact (Kd.R_reads' HO210.out).2.2 | (with_reducible refine Kd.C_alloc ?_ _) | (with_reducible refine Kd.C_drewN ?_ _) | (with_reducible refine Kd.C_drew ?_))); (case side2 => exact (Kd.R_reads' HO210.out).2.1); rintro e w8 ⟨v213, rfl, ho0, hb⟩; refine ⟨_, rfl, ?_⟩; have n0_ := Aside0.mk (Kd.R_elder' (by (with_reducible repeat (first | apply Kd.R_alloc | apply Kd.R_drewN | apply Kd.R_drew)); exact HO210.out) (Kd.R_base ho0) hb); have n1_ := Aside0.mk (Kd.R_lower (Kd.R_new' ho0 (Kd.R_lt (by (with_reducible repeat (first | apply Kd.R_alloc | apply Kd.R_drewN | apply Kd.R_drew)); exact HO210.out))) (below_size (by repeat (first | (with_reducible first | exact HB.out | apply below_alloc | apply pw_below_drewN | apply below_drew1) | exact HB.out)))); have n2_ := Aside0.mk (below_step (by repeat (first | (with_reducible first | exact HB.out | apply below_alloc | apply pw_below_drewN | apply below_drew1) | exact HB.out)) hb); clear HO210; clear HB; have HO210 := n0_; have HO214 := n1_; have HB := n2_; clear n0_ n1_ n2_; (try clear hb); (try clear hb2); (try clear hk); (try clear hi); (try clear ho0)) | ((with_reducible refine gate_dst (N := 5) rfl ?_); refine box_event ?hg (N := 5) ?hd (cs := #[.int .i64 0, .slice none 0 0]) (t := 32) ?hr ?_; (case hd => rfl); (case hg => rfl); (case hr => first | (go_simp; done) | (go_simp; rfl)); intro gb216 hg w9 hbox hb; have n0_ := Aside0.mk (Kd.R_below (by (with_reducible repeat (first | apply Kd.R_alloc | apply Kd.R_drewN | apply Kd.R_drew)); exact HO210.out) hb); have n1_ := Aside0.mk (Kd.R_below (by (with_reducible repeat (first | apply Kd.R_alloc | apply Kd.R_drewN | apply Kd.R_drew)); exact HO214.out) hb); have n2_ := Aside0.mk (below_step (by repeat (first | (with_reducible first | exact HB.out | apply below_alloc | apply pw_below_drewN | apply below_drew1) | exact HB.out)) hb); have n3_ := Aside0.mk (hbox); have n4_ := Aside0.mk ((by rw [hg]; exact (below_size (by repeat (first | (with_reducible first | exact HB.out | apply below_alloc | apply pw_below_drewN | apply below_drew1) | exact HB.out))) : w.heap.size ≤ gb216)); have n5_ := Aside0.mk ((by rw [hg]; exact (below_size (by repeat (first | (with_reducible first | exact HB.out | apply below_alloc | apply pw_below_drewN | apply below_drew1) | exact HB.out))) : w.heap.size ≤ gb216)); clear HO210; clear HO214; clear HB; have HO210 := n0_; have HO214 := n1_; have HB := n2_; have BK216 := n3_; have GW216 := n4_; have GE216 := n5_; clear n0_ n1_ n2_ n3_ n4_ n5_; clear hb hbox hg; have hcz10_0 : w9.cell? ⟨gb216, 0, none⟩ = some (.int .i64 0) := (blk_cell BK216.out 0).trans rfl; have hcz10_1 : w9.cell? ⟨gb216, 1, none⟩ = some (.slice none 0 0) := (blk_cell BK216.out 1).trans rfl; have hfz10_0 := blk_frozen BK216.out 0; have hfz10_1 := blk_frozen BK216.out 1; obtain ⟨Ao11, co11, eo11⟩ := Kd.R_slice HO214.out; subst eo11))
    go_loopg [7] k (fun kq v7 w' => ∃ (x7_1 : Int) (x217000_1 : Int) (x217001_1 : List Int) (u217001 : Value), v7 = .int .i64 x7_1 ∧ Aside0 (hawserlaw16_ConfigChange.l0 kq l1 x7_1 x217000_1 x217001_1 = some r) ∧ Aside0 (kq ≤ k) ∧ Aside0 (Kd.R (Kd.int .i64) 3 w' w.heap.size (fun _ => True) u217001 x217001_1) ∧ Aside0 (w'.heap[gb216]? = some (.cells #[.int .i64 x217000_1, u217001] 32 (0, 0))) ∧ Aside0 (Below w.heap.size w w'))
    case atStart => exact ⟨(0), (t211), (t212), (.slice Ao11 t212.length co11), (by first | rfl | (simp; done) | (simp [*]; done)), H', ⟨Nat.le_refl _⟩, ⟨by (with_reducible repeat (first | apply Kd.R_alloc | apply Kd.R_drewN | apply Kd.R_drew)); exact Kd.R_mono (Kd.R_far (p := ⟨gb216, 1, none⟩) (Kd.R_far (p := ⟨gb216, 0, none⟩) (Kd.R_types HO214.out BK216.out (by decide)) (fun _ hk => hk.2) (.int .i64 t211)) (fun _ hk => hk.2) (.slice Ao11 t212.length co11)) (fun _ hk => trivial)⟩, ⟨by (with_reducible repeat (first | refine blk_drewN ?_ _ | refine blk_drew ?_ | refine blk_alloc ?_ _)); refine blk_put (cs := #[.int .i64 t211, .slice none 0 0]) ?_ 1 _ rfl; (with_reducible repeat (first | refine blk_drewN ?_ _ | refine blk_drew ?_ | refine blk_alloc ?_ _)); refine blk_put (cs := #[.int .i64 0, .slice none 0 0]) ?_ 0 _ rfl; (with_reducible repeat (first | refine blk_drewN ?_ _ | refine blk_drew ?_ | refine blk_alloc ?_ _)); exact BK216.out⟩, ⟨by repeat (first | (with_reducible first | exact HB.out | apply below_alloc | apply pw_below_drewN | apply below_drew1 | refine below_set ?_ GE216.out) | exact HB.out)⟩⟩
    case round =>
      clear H'
      try clear c1
      try clear c2
      try clear p2
      try clear c3
      try clear c5
      try clear c5b0
      try clear c5b1
      try clear hcz10_0
      try clear hcz10_1
      try clear hfz10_0
      try clear hfz10_1
      obtain ⟨x7_1, x217000_1, x217001_1, u217001, rfl, HA, HK1, HO_217001, BK216, HB⟩ := hrel
      cases gk with
      | zero => exact absurd HA.out (by simp [hawserlaw16_ConfigChange.l0])
      | succ k1 =>
        have H := HA.out
        clear HA
        simp only [hawserlaw16_ConfigChange.l0] at H
        by_cases c12 : x7_1 < (l1.length : Int)
        · rw [if_pos c12] at H
          have c12b0 : decide (x7_1 < (l1.length : Int)) = true := decide_eq_true c12
          clear c12
          by_cases c13 : 0 ≤ x7_1
          · rw [if_pos c13] at H
            have c13b0 : decide (0 ≤ x7_1) = true := decide_eq_true c13
            clear c13
            replace H := Option.bind_eq_some_iff.mp H
            obtain ⟨⟨t219, t220, t223⟩, A140, H⟩ := H
            replace H : (if t223 = 0 then (hawserlaw16_ConfigChange.j1 k1 l1 x7_1 t223 x217000_1 x217001_1 t219 t220) else ((config_With.f k1 x217000_1 x217001_1 (rd l1 x7_1)).bind fun bt226 => (hawserlaw16_ConfigChange.j1 k1 l1 x7_1 bt226.2.2 x217000_1 x217001_1 bt226.1 bt226.2.1))) = some r := H
            have A14 := Aside0.mk A140
            clear A140
            have HC15 := Aside0.mk H
            clear H
            obtain ⟨Ao16, co16, eo16⟩ := Kd.R_slice HO_217001.out
            subst eo16
            try go_wp2
            have n0_ := Aside0.mk (Kd.R_drew HO_217001.out)
            have n1_ := Aside0.mk (blk_drew BK216.out)
            have n2_ := Aside0.mk (below_drew1 HB.out)
            clear HO_217001
            clear BK216
            clear HB
            have HO_217001 := n0_
            have BK216 := n1_
            have HB := n2_
            clear n0_ n1_ n2_
            have p218 : 0 ≤ (x7_1 : Int) := of_decide_eq_true (by first | (with_reducible assumption) | assumption)
            have q218 : x7_1 < (l1.length : Int) := of_decide_eq_true (by first | (with_reducible assumption) | assumption)
            obtain ⟨ad218, e218, hx218_0⟩ := Kd.at_int HR1.out x7_1 p218 q218
            have hw218_0 := hx218_0
            cases e218
            replace hx218_0 := (HB.out.cell (World.block_lt_of_cell? w _ hx218_0)).trans hx218_0
            replace p218 := eq_true p218
            replace q218 := eq_true q218
            refine start_ (n := 12) (S := fun w' => w'.cell? ⟨gb216, 0, none⟩ = some (.int .i64 x217000_1) ∧ w'.cell? ⟨gb216, 1, none⟩ = some (.slice Ao16 x217001_1.length co16) ∧ w'.cell? (ad218.add (x7_1).toNat) = some (.int .i64 (rd l1 x7_1))) (ds := []) #[false, false, false, false, false, false, false, false, false, false, false, false] (by kernel_rfl) rfl rfl ⟨(blk_cell BK216.out 0).trans rfl, (blk_cell BK216.out 1).trans rfl, ((HB.out.cell (World.block_lt_of_cell? w _ hw218_0)).trans hw218_0)⟩ (fun hHeld => ?_); refine with_tabW hawserlaw16_ConfigChange.tab7 hawserlaw16_ConfigChange.bits7 (fun HT_ HW_ => ?_)
            generalize wr.drew = w17 at HO_217001 BK216 HB hx218_0 hHeld ⊢
            refine pure_ (i := 1) (N := some 28) (v := ?_) (a' := ?_) #[false, true, false, false, false, false, false, false, false, false, false, false] rfl rfl (any_of HT_.out (by kernel_rfl)) (fun _ _ _ h => h) (Or.inl ⟨by rfl, ?_⟩) ?_ ?_
            rotate_left
            · intro w'
              go_simp
              with_reducible rfl
            rotate_left
            · simp only [Act.put, List.setIfInBounds_toArray, List.set_cons_zero, List.set_cons_succ, i64_w, i32_w]
              rfl
            refine pure_ (i := 2) (N := some 29) (v := ?_) (a' := ?_) #[false, true, true, false, false, false, false, false, false, false, false, false] rfl rfl (any_of HT_.out (by kernel_rfl)) (fun _ _ _ h => h) (Or.inl ⟨by rfl, ?_⟩) ?_ ?_
            rotate_left
            · intro w'
              go_simp
              with_reducible rfl
            rotate_left
            · simp only [Act.put, List.setIfInBounds_toArray, List.set_cons_zero, List.set_cons_succ, i64_w, i32_w]
              rfl
            refine pure_ (i := 3) (N := some 30) (v := ?_) (a' := ?_) #[false, true, true, true, false, false, false, false, false, false, false, false] rfl rfl (any_of HT_.out (by kernel_rfl)) (fun _ _ _ h => h) (Or.inl ⟨by rfl, ?_⟩) ?_ ?_
            rotate_left
            · intro w'
              go_simp
              with_reducible rfl
            rotate_left
            · simp only [Act.put, List.setIfInBounds_toArray, List.set_cons_zero, List.set_cons_succ, i64_w, i32_w]
              rfl
            refine take_ (i := 0) (N := some 27) (v := ?_) (a' := ?_) #[true, true, true, true, false, false, false, false, false, false, false, false] rfl rfl (take_ofW HT_.out HW_.out (by kernel_rfl)) (fun _ _ _ h => h) (Or.inl ⟨by rfl, ?_⟩) hHeld ?_ ?_
            rotate_left
            · rintro w' ⟨s0, s1, s2⟩
              go_simp
              with_reducible rfl
            rotate_left
            · simp only [Act.put, List.setIfInBounds_toArray, List.set_cons_zero, List.set_cons_succ, i64_w, i32_w]
              rfl
            refine take_ (i := 4) (N := some 31) (v := ?_) (a' := ?_) #[true, true, true, true, true, false, false, false, false, false, false, false] rfl rfl (take_ofW HT_.out HW_.out (by kernel_rfl)) (fun _ _ _ h => h) (Or.inl ⟨by rfl, ?_⟩) hHeld ?_ ?_
            rotate_left
            · rintro w' ⟨s0, s1, s2⟩
              go_simp
              with_reducible rfl
            rotate_left
            · simp only [Act.put, List.setIfInBounds_toArray, List.set_cons_zero, List.set_cons_succ, i64_w, i32_w]
              rfl
            refine join_ (σ := Value × Nat) 2 #[true, true, true, true, true, true, true, true, true, true, false, false] (fun s_ => [(32, .tuple #[.agg #[.int .i64 t219, s_.1], .int .i64 t223]), (8, .pointer (some ⟨s_.2, 0, none⟩)), (26, .tuple #[.agg #[.int .i64 t219, s_.1], .int .i64 t223]), (33, .agg #[.int .i64 t219, s_.1]), (34, .int .i64 t223)]) (fun s_ w' => (w'.cell? ⟨gb216, 0, none⟩ = some (.int .i64 x217000_1) ∧ w'.cell? ⟨gb216, 1, none⟩ = some (.slice Ao16 x217001_1.length co16) ∧ w'.cell? (ad218.add (x7_1).toNat) = some (.int .i64 (rd l1 x7_1))) ∧ (Kd.R (Kd.int .i64) 3 w' w.heap.size (fun k_ => some k_ ≠ (.slice Ao16 x217001_1.length co16 : Value).ownBlock) s_.1 t220) ∧ (Kd.R (Kd.int .i64) 3 w' w.heap.size (fun k_ => some k_ ≠ (s_.1 : Value).ownBlock) (.slice Ao16 x217001_1.length co16) x217001_1) ∧ (w'.heap[gb216]? = some (.cells #[.int .i64 x217000_1, .slice Ao16 x217001_1.length co16] 32 (0, 0))) ∧ (w'.heap[s_.2]? = some (.cells #[.int .i64 0, .slice none 0 0] 32 (0, 0))) ∧ (w.heap.size ≤ s_.2) ∧ (w.heap.size ≤ s_.2) ∧ (gb216 ≠ s_.2) ∧ (s_.2 ≠ gb216) ∧ (Below w.heap.size w w')) ?_ ?_
            rotate_left
            · intro hCont
              refine two_ (i := 5) (j := 9) (Ni := some 32) (Nj := some 8) #[true, true, true, true, true, true, false, false, false, false, false, false] #[true, true, true, true, true, false, false, false, false, true, false, false] rfl rfl rfl rfl (two_of HT_.out (by kernel_rfl)) (by decide) (by decide) (fun K hK => ?_) (fun K hK => ?_)
              · skip
                refine goes_ Try.func39 (by kernel_rfl) rfl #[.agg #[.int .i64 x217000_1, .slice Ao16 x217001_1.length co16], .int .i64 (rd l1 x7_1)] (by rfl) rfl rfl (by (try simp only [List.map_toArray, List.map_cons, List.map_nil]); first | done | rfl | (simp only [List.length_drop, List.length_take]; rfl)) ?_
                with_reducible refine (config_Without.calls x217000_1 (fun k_ => some k_ = (.slice Ao16 x217001_1.length co16 : Value).ownBlock) _ _ x217001_1 (rd l1 x7_1) t219 t220 t223 _ ?side1 A14.out).mono ?_
                (case side1 => exact Kd.R_V (Kd.R_tight rfl (Kd.R_types (HO_217001.out) BK216.out (by decide))))
                rintro e w18 ⟨v221, rfl, ho0, hb⟩
                refine ⟨_, rfl, ?_⟩
                have n0_ := Aside0.mk (Kd.R_elder' (by (with_reducible repeat (first | apply Kd.R_alloc | apply Kd.R_drewN | apply Kd.R_drew)); exact HO_217001.out) (Kd.R_base ho0) hb)
                have n1_ := Aside0.mk (Kd.R_lower (Kd.R_new' (Kd.R_mono (ok' := fun k_ => True) ho0 (fun _ hk_ => trivial)) (Kd.R_lt (by (with_reducible repeat (first | apply Kd.R_alloc | apply Kd.R_drewN | apply Kd.R_drew)); exact HO_217001.out))) (below_size (by repeat (first | (with_reducible first | exact HB.out | apply below_alloc | apply pw_below_drewN | apply below_drew1 | refine below_set ?_ GE216.out) | exact HB.out))))
                have n2_ := Aside0.mk (blk_below (g := gb216) (o := .cells #[.int .i64 x217000_1, .slice Ao16 x217001_1.length co16] 32 (0, 0)) (by (with_reducible repeat (first | refine blk_drewN ?_ _ | refine blk_drew ?_ | refine blk_alloc ?_ _)); exact BK216.out) hb)
                have n3_ := Aside0.mk (below_step (by repeat (first | (with_reducible first | exact HB.out | apply below_alloc | apply pw_below_drewN | apply below_drew1 | refine below_set ?_ GE216.out) | exact HB.out)) hb)
                clear HO_217001
                clear BK216
                clear HB
                have HO_217001 := n0_
                have HO222 := n1_
                have BK216 := n2_
                have HB := n3_
                clear n0_ n1_ n2_ n3_
                (try clear hb)
                (try clear hb2)
                (try clear hk)
                (try clear hi)
                (try clear ho0)
                refine hK.out _ _ ⟨(blk_cell BK216.out 0).trans rfl, (blk_cell BK216.out 1).trans rfl, ((HB.out.cell (World.block_lt_of_cell? w _ hw218_0)).trans hw218_0)⟩ (fun hHeld => ?_)
                clear hK K
                refine norm_ (a' := ?_) ?_ ?_
                rotate_left
                · show Act.put _ (some 32) _ = _
                  simp only [Act.put, List.setIfInBounds_toArray, List.set_cons_zero, List.set_cons_succ, i64_w, i32_w]
                  rfl
                refine pure_ (i := 6) (N := some 26) (v := ?_) (a' := ?_) #[true, true, true, true, true, true, true, false, false, false, false, false] rfl rfl (any_of HT_.out (by kernel_rfl)) (fun _ _ _ h => h) (Or.inl ⟨by rfl, ?_⟩) ?_ ?_
                rotate_left
                · intro w'
                  go_simp
                  with_reducible rfl
                rotate_left
                · simp only [Act.put, List.setIfInBounds_toArray, List.set_cons_zero, List.set_cons_succ, i64_w, i32_w]
                  rfl
                refine pure_ (i := 7) (N := some 33) (v := ?_) (a' := ?_) #[true, true, true, true, true, true, true, true, false, false, false, false] rfl rfl (any_of HT_.out (by kernel_rfl)) (fun _ _ _ h => h) (Or.inl ⟨by rfl, ?_⟩) ?_ ?_
                rotate_left
                · intro w'
                  go_simp
                  with_reducible rfl
                rotate_left
                · simp only [Act.put, List.setIfInBounds_toArray, List.set_cons_zero, List.set_cons_succ, i64_w, i32_w]
                  rfl
                refine pure_ (i := 8) (N := some 34) (v := ?_) (a' := ?_) #[true, true, true, true, true, true, true, true, true, false, false, false] rfl rfl (any_of HT_.out (by kernel_rfl)) (fun _ _ _ h => h) (Or.inl ⟨by rfl, ?_⟩) ?_ ?_
                rotate_left
                · intro w'
                  go_simp
                  with_reducible rfl
                rotate_left
                · simp only [Act.put, List.setIfInBounds_toArray, List.set_cons_zero, List.set_cons_succ, i64_w, i32_w]
                  rfl
                refine one_ (i := 9) (N := some 8) #[true, true, true, true, true, true, true, true, true, true, false, false] rfl rfl (one_of HT_.out (by kernel_rfl)) (by decide) (fun K hK => ?_)
                refine box_step ?hg (N := 8) ?hd (cs := #[.int .i64 0, .slice none 0 0]) (t := 32) ?hr ?_; (case hd => rfl); (case hg => rfl); (case hr => first | (go_simp; done) | (go_simp; rfl))
                intro gb224 hg w19 hbox hb
                have n0_ := Aside0.mk (Kd.R_below (by (with_reducible repeat (first | apply Kd.R_alloc | apply Kd.R_drewN | apply Kd.R_drew)); exact HO_217001.out) hb)
                have n1_ := Aside0.mk (Kd.R_below (by (with_reducible repeat (first | apply Kd.R_alloc | apply Kd.R_drewN | apply Kd.R_drew)); exact HO222.out) hb)
                have n2_ := Aside0.mk (blk_below (g := gb216) (o := .cells #[.int .i64 x217000_1, .slice Ao16 x217001_1.length co16] 32 (0, 0)) (by (with_reducible repeat (first | refine blk_drewN ?_ _ | refine blk_drew ?_ | refine blk_alloc ?_ _)); exact BK216.out) hb)
                have n3_ := Aside0.mk (below_step (by repeat (first | (with_reducible first | exact HB.out | apply below_alloc | apply pw_below_drewN | apply below_drew1 | refine below_set ?_ GE216.out) | exact HB.out)) hb)
                have n4_ := Aside0.mk (hbox)
                have n5_ := Aside0.mk ((by rw [hg]; exact (below_size (by repeat (first | (with_reducible first | exact HB.out | apply below_alloc | apply pw_below_drewN | apply below_drew1 | refine below_set ?_ GE216.out) | exact HB.out))) : w.heap.size ≤ gb224))
                have n6_ := Aside0.mk ((by rw [hg]; exact (below_size (by repeat (first | (with_reducible first | exact HB.out | apply below_alloc | apply pw_below_drewN | apply below_drew1 | refine below_set ?_ GE216.out) | exact HB.out))) : w.heap.size ≤ gb224))
                have n7_ := Aside0.mk ((by rw [hg]; exact Nat.ne_of_lt (blk_lt (g := gb216) (o := .cells #[.int .i64 x217000_1, .slice Ao16 x217001_1.length co16] 32 (0, 0)) (by (with_reducible repeat (first | refine blk_drewN ?_ _ | refine blk_drew ?_ | refine blk_alloc ?_ _)); exact BK216.out)) : gb216 ≠ gb224))
                have n8_ := Aside0.mk ((by rw [hg]; exact Nat.ne_of_gt (blk_lt (g := gb216) (o := .cells #[.int .i64 x217000_1, .slice Ao16 x217001_1.length co16] 32 (0, 0)) (by (with_reducible repeat (first | refine blk_drewN ?_ _ | refine blk_drew ?_ | refine blk_alloc ?_ _)); exact BK216.out)) : gb224 ≠ gb216))
                clear HO_217001
                clear HO222
                clear BK216
                clear HB
                have HO_217001 := n0_
                have HO222 := n1_
                have BK216 := n2_
                have HB := n3_
                have BK224 := n4_
                have GW224 := n5_
                have GE224 := n6_
                have NB216_224 := n7_
                have NB224_216 := n8_
                clear n0_ n1_ n2_ n3_ n4_ n5_ n6_ n7_ n8_
                clear hb hbox hg
                refine hK.out _ _ ⟨(blk_cell BK216.out 0).trans rfl, (blk_cell BK216.out 1).trans rfl, ((HB.out.cell (World.block_lt_of_cell? w _ hw218_0)).trans hw218_0)⟩ (fun hHeld => ?_)
                clear hK K
                refine norm_ (a' := ?_) ?_ ?_
                rotate_left
                · show Act.put _ (some 8) _ = _
                  simp only [Act.put, List.setIfInBounds_toArray, List.set_cons_zero, List.set_cons_succ, i64_w, i32_w]
                  rfl
                exact norm_ (by simp only [putAll, Act.put, List.setIfInBounds_toArray, List.set_cons_zero, List.set_cons_succ]) (hCont (v221, gb224) _ ⟨hHeld, (by (with_reducible repeat (first | apply Kd.R_alloc | apply Kd.R_drewN | apply Kd.R_drew)); exact Kd.R_mono HO222.out (fun _ hk => hk.2)), (by (with_reducible repeat (first | apply Kd.R_alloc | apply Kd.R_drewN | apply Kd.R_drew)); exact Kd.R_mono HO_217001.out (fun _ hk => hk.2)), (by (with_reducible repeat (first | refine blk_drewN ?_ _ | refine blk_drew ?_ | refine blk_alloc ?_ _)); exact BK216.out), (by (with_reducible repeat (first | refine blk_drewN ?_ _ | refine blk_drew ?_ | refine blk_alloc ?_ _)); exact BK224.out), GW224.out, GE224.out, NB216_224.out, NB224_216.out, (by repeat (first | (with_reducible first | exact HB.out | apply below_alloc | apply pw_below_drewN | apply below_drew1 | refine below_set ?_ GE216.out | refine below_set ?_ GE224.out) | exact HB.out))⟩)
              · skip
                refine box_step ?hg (N := 8) ?hd (cs := #[.int .i64 0, .slice none 0 0]) (t := 32) ?hr ?_; (case hd => rfl); (case hg => rfl); (case hr => first | (go_simp; done) | (go_simp; rfl))
                intro gb224 hg w18 hbox hb
                have n0_ := Aside0.mk (Kd.R_below (by (with_reducible repeat (first | apply Kd.R_alloc | apply Kd.R_drewN | apply Kd.R_drew)); exact HO_217001.out) hb)
                have n1_ := Aside0.mk (blk_below (g := gb216) (o := .cells #[.int .i64 x217000_1, .slice Ao16 x217001_1.length co16] 32 (0, 0)) (by (with_reducible repeat (first | refine blk_drewN ?_ _ | refine blk_drew ?_ | refine blk_alloc ?_ _)); exact BK216.out) hb)
                have n2_ := Aside0.mk (below_step (by repeat (first | (with_reducible first | exact HB.out | apply below_alloc | apply pw_below_drewN | apply below_drew1 | refine below_set ?_ GE216.out) | exact HB.out)) hb)
                have n3_ := Aside0.mk (hbox)
                have n4_ := Aside0.mk ((by rw [hg]; exact (below_size (by repeat (first | (with_reducible first | exact HB.out | apply below_alloc | apply pw_below_drewN | apply below_drew1 | refine below_set ?_ GE216.out) | exact HB.out))) : w.heap.size ≤ gb224))
                have n5_ := Aside0.mk ((by rw [hg]; exact (below_size (by repeat (first | (with_reducible first | exact HB.out | apply below_alloc | apply pw_below_drewN | apply below_drew1 | refine below_set ?_ GE216.out) | exact HB.out))) : w.heap.size ≤ gb224))
                have n6_ := Aside0.mk ((by rw [hg]; exact Nat.ne_of_lt (blk_lt (g := gb216) (o := .cells #[.int .i64 x217000_1, .slice Ao16 x217001_1.length co16] 32 (0, 0)) (by (with_reducible repeat (first | refine blk_drewN ?_ _ | refine blk_drew ?_ | refine blk_alloc ?_ _)); exact BK216.out)) : gb216 ≠ gb224))
                have n7_ := Aside0.mk ((by rw [hg]; exact Nat.ne_of_gt (blk_lt (g := gb216) (o := .cells #[.int .i64 x217000_1, .slice Ao16 x217001_1.length co16] 32 (0, 0)) (by (with_reducible repeat (first | refine blk_drewN ?_ _ | refine blk_drew ?_ | refine blk_alloc ?_ _)); exact BK216.out)) : gb224 ≠ gb216))
                clear HO_217001
                clear BK216
                clear HB
                have HO_217001 := n0_
                have BK216 := n1_
                have HB := n2_
                have BK224 := n3_
                have GW224 := n4_
                have GE224 := n5_
                have NB216_224 := n6_
                have NB224_216 := n7_
                clear n0_ n1_ n2_ n3_ n4_ n5_ n6_ n7_
                clear hb hbox hg
                refine hK.out _ _ ⟨(blk_cell BK216.out 0).trans rfl, (blk_cell BK216.out 1).trans rfl, ((HB.out.cell (World.block_lt_of_cell? w _ hw218_0)).trans hw218_0)⟩ (fun hHeld => ?_)
                clear hK K
                refine norm_ (a' := ?_) ?_ ?_
                rotate_left
                · show Act.put _ (some 8) _ = _
                  simp only [Act.put, List.setIfInBounds_toArray, List.set_cons_zero, List.set_cons_succ, i64_w, i32_w]
                  rfl
                refine one_ (i := 5) (N := some 32) #[true, true, true, true, true, true, false, false, false, true, false, false] rfl rfl (one_of HT_.out (by kernel_rfl)) (by decide) (fun K hK => ?_)
                refine goes_ Try.func39 (by kernel_rfl) rfl #[.agg #[.int .i64 x217000_1, .slice Ao16 x217001_1.length co16], .int .i64 (rd l1 x7_1)] (by rfl) rfl rfl (by (try simp only [List.map_toArray, List.map_cons, List.map_nil]); first | done | rfl | (simp only [List.length_drop, List.length_take]; rfl)) ?_
                with_reducible refine (config_Without.calls x217000_1 (fun k_ => some k_ = (.slice Ao16 x217001_1.length co16 : Value).ownBlock) _ _ x217001_1 (rd l1 x7_1) t219 t220 t223 _ ?side1 A14.out).mono ?_
                (case side1 => exact Kd.R_V (Kd.R_tight rfl (Kd.R_types (Kd.R_types (HO_217001.out) BK216.out (by decide)) BK224.out (by decide))))
                rintro e w19 ⟨v221, rfl, ho0, hb⟩
                refine ⟨_, rfl, ?_⟩
                have n0_ := Aside0.mk (Kd.R_elder' (by (with_reducible repeat (first | apply Kd.R_alloc | apply Kd.R_drewN | apply Kd.R_drew)); exact HO_217001.out) (Kd.R_base ho0) hb)
                have n1_ := Aside0.mk (Kd.R_lower (Kd.R_new' (Kd.R_mono (ok' := fun k_ => True) ho0 (fun _ hk_ => trivial)) (Kd.R_lt (by (with_reducible repeat (first | apply Kd.R_alloc | apply Kd.R_drewN | apply Kd.R_drew)); exact HO_217001.out))) (below_size (by repeat (first | (with_reducible first | exact HB.out | apply below_alloc | apply pw_below_drewN | apply below_drew1 | refine below_set ?_ GE216.out | refine below_set ?_ GE224.out) | exact HB.out))))
                have n2_ := Aside0.mk (blk_below (g := gb216) (o := .cells #[.int .i64 x217000_1, .slice Ao16 x217001_1.length co16] 32 (0, 0)) (by (with_reducible repeat (first | refine blk_drewN ?_ _ | refine blk_drew ?_ | refine blk_alloc ?_ _)); exact BK216.out) hb)
                have n3_ := Aside0.mk (blk_below (g := gb224) (o := .cells #[.int .i64 0, .slice none 0 0] 32 (0, 0)) (by (with_reducible repeat (first | refine blk_drewN ?_ _ | refine blk_drew ?_ | refine blk_alloc ?_ _)); exact BK224.out) hb)
                have n4_ := Aside0.mk (below_step (by repeat (first | (with_reducible first | exact HB.out | apply below_alloc | apply pw_below_drewN | apply below_drew1 | refine below_set ?_ GE216.out | refine below_set ?_ GE224.out) | exact HB.out)) hb)
                clear HO_217001
                clear BK216
                clear BK224
                clear HB
                have HO_217001 := n0_
                have HO222 := n1_
                have BK216 := n2_
                have BK224 := n3_
                have HB := n4_
                clear n0_ n1_ n2_ n3_ n4_
                (try clear hb)
                (try clear hb2)
                (try clear hk)
                (try clear hi)
                (try clear ho0)
                refine hK.out _ _ ⟨(blk_cell BK216.out 0).trans rfl, (blk_cell BK216.out 1).trans rfl, ((HB.out.cell (World.block_lt_of_cell? w _ hw218_0)).trans hw218_0)⟩ (fun hHeld => ?_)
                clear hK K
                refine norm_ (a' := ?_) ?_ ?_
                rotate_left
                · show Act.put _ (some 32) _ = _
                  simp only [Act.put, List.setIfInBounds_toArray, List.set_cons_zero, List.set_cons_succ, i64_w, i32_w]
                  rfl
                refine pure_ (i := 6) (N := some 26) (v := ?_) (a' := ?_) #[true, true, true, true, true, true, true, false, false, true, false, false] rfl rfl (any_of HT_.out (by kernel_rfl)) (fun _ _ _ h => h) (Or.inl ⟨by rfl, ?_⟩) ?_ ?_
                rotate_left
                · intro w'
                  go_simp
                  with_reducible rfl
                rotate_left
                · simp only [Act.put, List.setIfInBounds_toArray, List.set_cons_zero, List.set_cons_succ, i64_w, i32_w]
                  rfl
                refine pure_ (i := 7) (N := some 33) (v := ?_) (a' := ?_) #[true, true, true, true, true, true, true, true, false, true, false, false] rfl rfl (any_of HT_.out (by kernel_rfl)) (fun _ _ _ h => h) (Or.inl ⟨by rfl, ?_⟩) ?_ ?_
                rotate_left
                · intro w'
                  go_simp
                  with_reducible rfl
                rotate_left
                · simp only [Act.put, List.setIfInBounds_toArray, List.set_cons_zero, List.set_cons_succ, i64_w, i32_w]
                  rfl
                refine pure_ (i := 8) (N := some 34) (v := ?_) (a' := ?_) #[true, true, true, true, true, true, true, true, true, true, false, false] rfl rfl (any_of HT_.out (by kernel_rfl)) (fun _ _ _ h => h) (Or.inl ⟨by rfl, ?_⟩) ?_ ?_
                rotate_left
                · intro w'
                  go_simp
                  with_reducible rfl
                rotate_left
                · simp only [Act.put, List.setIfInBounds_toArray, List.set_cons_zero, List.set_cons_succ, i64_w, i32_w]
                  rfl
                exact norm_ (by simp only [putAll, Act.put, List.setIfInBounds_toArray, List.set_cons_zero, List.set_cons_succ]) (hCont (v221, gb224) _ ⟨hHeld, (by (with_reducible repeat (first | apply Kd.R_alloc | apply Kd.R_drewN | apply Kd.R_drew)); exact Kd.R_mono HO222.out (fun _ hk => hk.2)), (by (with_reducible repeat (first | apply Kd.R_alloc | apply Kd.R_drewN | apply Kd.R_drew)); exact Kd.R_mono HO_217001.out (fun _ hk => hk.2)), (by (with_reducible repeat (first | refine blk_drewN ?_ _ | refine blk_drew ?_ | refine blk_alloc ?_ _)); exact BK216.out), (by (with_reducible repeat (first | refine blk_drewN ?_ _ | refine blk_drew ?_ | refine blk_alloc ?_ _)); exact BK224.out), GW224.out, GE224.out, NB216_224.out, NB224_216.out, (by repeat (first | (with_reducible first | exact HB.out | apply below_alloc | apply pw_below_drewN | apply below_drew1 | refine below_set ?_ GE216.out | refine below_set ?_ GE224.out) | exact HB.out))⟩)
            rintro ⟨v221, gb224⟩ w20 ⟨hS_, h0_, h1_, h2_, h3_, h4_, h5_, h6_, h7_, h8_⟩
            have n0_ : Aside0 (Kd.R (Kd.int .i64) 3 w20 w.heap.size (fun k_ => some k_ ≠ (.slice Ao16 x217001_1.length co16 : Value).ownBlock) v221 t220) := ⟨h0_⟩
            have n1_ : Aside0 (Kd.R (Kd.int .i64) 3 w20 w.heap.size (fun k_ => some k_ ≠ (v221 : Value).ownBlock) (.slice Ao16 x217001_1.length co16) x217001_1) := ⟨h1_⟩
            have n2_ : Aside0 (w20.heap[gb216]? = some (.cells #[.int .i64 x217000_1, .slice Ao16 x217001_1.length co16] 32 (0, 0))) := ⟨h2_⟩
            have n3_ : Aside0 (w20.heap[gb224]? = some (.cells #[.int .i64 0, .slice none 0 0] 32 (0, 0))) := ⟨h3_⟩
            have n4_ : Aside0 (w.heap.size ≤ gb224) := ⟨h4_⟩
            have n5_ : Aside0 (w.heap.size ≤ gb224) := ⟨h5_⟩
            have n6_ : Aside0 (gb216 ≠ gb224) := ⟨h6_⟩
            have n7_ : Aside0 (gb224 ≠ gb216) := ⟨h7_⟩
            have n8_ : Aside0 (Below w.heap.size w w20) := ⟨h8_⟩
            clear HO_217001
            clear BK216
            clear HB
            clear h0_ h1_ h2_ h3_ h4_ h5_ h6_ h7_ h8_
            have HO222 := n0_
            have HO_217001 := n1_
            have BK216 := n2_
            have BK224 := n3_
            have GW224 := n4_
            have GE224 := n5_
            have NB216_224 := n6_
            have NB224_216 := n7_
            have HB := n8_
            clear n0_ n1_ n2_ n3_ n4_ n5_ n6_ n7_ n8_
            have hHeld : w20.cell? ⟨gb216, 0, none⟩ = some (.int .i64 x217000_1) ∧ w20.cell? ⟨gb216, 1, none⟩ = some (.slice Ao16 x217001_1.length co16) ∧ w20.cell? (ad218.add (x7_1).toNat) = some (.int .i64 (rd l1 x7_1)) := hS_
            obtain ⟨Ao22, co22, eo22⟩ := Kd.R_slice HO222.out
            (first | subst eo22 | (injection eo22 with f1_ f2_ f3_; have f4_ := f1_.symm; have f5_ := f3_.symm; clear f1_ f2_ f3_; subst f4_; subst f5_))
            refine norm_ (a' := ?_) ?_ ?_
            rotate_left
            · simp only [putAll, Act.put, List.setIfInBounds_toArray, List.set_cons_zero, List.set_cons_succ]
              rfl
            refine one_ (i := 10) (N := none) #[true, true, true, true, true, true, true, true, true, true, true, false] rfl rfl (one_of HT_.out (by kernel_rfl)) (by decide) (fun K hK => ?_)
            have hs21 : w20.cell? ⟨gb224, 0, none⟩ = some (.int .i64 0) := (blk_cell BK224.out 0).trans rfl
            have hfs21 := blk_frozen BK224.out 0
            have hns21_0 := NB216_224.out
            have hms21_0 := NB224_216.out
            have hs23 : w20.cell? ⟨gb224, 1, none⟩ = some (.slice none 0 0) := (blk_cell BK224.out 1).trans rfl
            have hfs23 := blk_frozen BK224.out 1
            have hns23_0 := NB216_224.out
            have hms23_0 := NB224_216.out
            refine skip_ (w1 := ?_) (by rfl) rfl ?_ ?_
            rotate_left
            · go_simp
              rfl
            refine hK.out _ _ ⟨((cell_far (p := ⟨gb224, _, none⟩) NB216_224.out _).trans (((cell_far (p := ⟨gb224, _, none⟩) NB216_224.out _).trans (hHeld.1)))), ((cell_far (p := ⟨gb224, _, none⟩) NB216_224.out _).trans (((cell_far (p := ⟨gb224, _, none⟩) NB216_224.out _).trans (hHeld.2.1)))), ((cell_far (p := ⟨gb224, _, none⟩) (by first | exact Nat.ne_of_lt (Nat.lt_of_lt_of_le (by have := World.block_lt_of_cell? _ _ hw218_0; first | rwa [add_block] at this | exact this) GW224.out) | (rw [add_block]; exact Nat.ne_of_lt (Nat.lt_of_lt_of_le (by have := World.block_lt_of_cell? _ _ hw218_0; first | rwa [add_block] at this | exact this) GW224.out)) | (show (Addr.add _ _).block ≠ _; rw [add_block]; exact Nat.ne_of_lt (Nat.lt_of_lt_of_le (by have := World.block_lt_of_cell? _ _ hw218_0; first | rwa [add_block] at this | exact this) GW224.out)) | (dsimp only; exact Nat.ne_of_lt (Nat.lt_of_lt_of_le (by have := World.block_lt_of_cell? _ _ hw218_0; first | rwa [add_block] at this | exact this) GW224.out))) _).trans (((cell_far (p := ⟨gb224, _, none⟩) (by first | exact Nat.ne_of_lt (Nat.lt_of_lt_of_le (by have := World.block_lt_of_cell? _ _ hw218_0; first | rwa [add_block] at this | exact this) GW224.out) | (rw [add_block]; exact Nat.ne_of_lt (Nat.lt_of_lt_of_le (by have := World.block_lt_of_cell? _ _ hw218_0; first | rwa [add_block] at this | exact this) GW224.out)) | (show (Addr.add _ _).block ≠ _; rw [add_block]; exact Nat.ne_of_lt (Nat.lt_of_lt_of_le (by have := World.block_lt_of_cell? _ _ hw218_0; first | rwa [add_block] at this | exact this) GW224.out)) | (dsimp only; exact Nat.ne_of_lt (Nat.lt_of_lt_of_le (by have := World.block_lt_of_cell? _ _ hw218_0; first | rwa [add_block] at this | exact this) GW224.out))) _).trans (hHeld.2.2))))⟩ (fun hHeld => ?_)
            clear hK K
            refine pure_ (i := 11) (N := some 9) (v := ?_) (a' := ?_) #[true, true, true, true, true, true, true, true, true, true, true, true] rfl rfl (any_of HT_.out (by kernel_rfl)) (fun _ _ _ h => h) (Or.inl ⟨by rfl, ?_⟩) ?_ ?_
            rotate_left
            · intro w'
              go_simp
              with_reducible rfl
            rotate_left
            · simp only [Act.put, List.setIfInBounds_toArray, List.set_cons_zero, List.set_cons_succ, i64_w, i32_w]
              rfl
            refine done_ (done_of HT_.out (by kernel_rfl)) ?_
            go_upto_if 36 with (fail)
            go_cut [9] (fun v9 wc => ∃ (kq : Nat) (x9_14 : Int) (x225000_14 : Int) (x225001_14 : List Int) (u225001 : Value), v9 = .int .i64 x9_14 ∧ Aside0 (hawserlaw16_ConfigChange.j1 kq l1 x7_1 x9_14 x217000_1 x217001_1 x225000_14 x225001_14 = some r) ∧ Aside0 (kq ≤ k1) ∧ Aside0 (Kd.R (Kd.int .i64) 3 wc w.heap.size (fun k_ => some k_ ≠ (u225001 : Value).ownBlock) (.slice Ao16 x217001_1.length co16) x217001_1) ∧ Aside0 (Kd.R (Kd.int .i64) 3 wc w.heap.size (fun k_ => some k_ ≠ ((.slice Ao16 x217001_1.length co16) : Value).ownBlock) u225001 x225001_14) ∧ Aside0 (wc.heap[gb216]? = some (.cells #[.int .i64 x217000_1, (.slice Ao16 x217001_1.length co16)] 32 (0, 0))) ∧ Aside0 (wc.heap[gb224]? = some (.cells #[.int .i64 x225000_14, u225001] 32 (0, 0))) ∧ Aside0 (Below w.heap.size w wc))
            case first =>
              have H := HC15.out
              clear HC15
              by_cases c24 : t223 = 0
              · rw [if_pos c24] at H
                have c24b0 : (t223 == 0) = true := beq_iff_eq.mpr c24
                have c24b1 : (t223 != 0) = false := bne_eq_false_iff_eq.mpr c24
                clear c24
                (first | rw [c24b0] | (simp only [i64_w, i32_w]; rw [c24b0]) | rw [c24b1] | skip)
                have H' := Aside0.mk H
                clear H
                go_wp2
                go_meet
                case rel => exact ⟨_, (t223), (t219), (t220), (.slice Ao22 t220.length co22), (by first | rfl | (simp; done) | (simp [*]; done)), H', ⟨by have := HK1.out; first | omega | exact Nat.le_refl _⟩, ⟨by (with_reducible repeat (first | apply Kd.R_alloc | apply Kd.R_drewN | apply Kd.R_drew)); exact Kd.R_mono (Kd.R_far (p := ⟨gb224, 1, none⟩) (Kd.R_far (p := ⟨gb224, 0, none⟩) (Kd.R_types HO_217001.out BK224.out (by decide)) (fun _ hk => hk.2) (.int .i64 t219)) (fun _ hk => hk.2) (.slice Ao22 t220.length co22)) (fun _ hk => hk.1)⟩, ⟨by (with_reducible repeat (first | apply Kd.R_alloc | apply Kd.R_drewN | apply Kd.R_drew)); exact Kd.R_mono (Kd.R_far (p := ⟨gb224, 1, none⟩) (Kd.R_far (p := ⟨gb224, 0, none⟩) (Kd.R_types HO222.out BK224.out (by decide)) (fun _ hk => hk.2) (.int .i64 t219)) (fun _ hk => hk.2) (.slice Ao22 t220.length co22)) (fun _ hk => hk.1)⟩, ⟨by (with_reducible repeat (first | refine blk_drewN ?_ _ | refine blk_drew ?_ | refine blk_alloc ?_ _)); refine blk_far ?_ NB216_224.out _; (with_reducible repeat (first | refine blk_drewN ?_ _ | refine blk_drew ?_ | refine blk_alloc ?_ _)); refine blk_far ?_ NB216_224.out _; (with_reducible repeat (first | refine blk_drewN ?_ _ | refine blk_drew ?_ | refine blk_alloc ?_ _)); exact BK216.out⟩, ⟨by (with_reducible repeat (first | refine blk_drewN ?_ _ | refine blk_drew ?_ | refine blk_alloc ?_ _)); refine blk_put (cs := #[.int .i64 t219, .slice none 0 0]) ?_ 1 _ rfl; (with_reducible repeat (first | refine blk_drewN ?_ _ | refine blk_drew ?_ | refine blk_alloc ?_ _)); refine blk_put (cs := #[.int .i64 0, .slice none 0 0]) ?_ 0 _ rfl; (with_reducible repeat (first | refine blk_drewN ?_ _ | refine blk_drew ?_ | refine blk_alloc ?_ _)); exact BK224.out⟩, ⟨by repeat (first | (with_reducible first | exact HB.out | apply below_alloc | apply pw_below_drewN | apply below_drew1 | refine below_set ?_ GE216.out | refine below_set ?_ GE224.out) | exact HB.out)⟩⟩
              · rw [if_neg c24] at H
                have c24b0 : (t223 == 0) = false := beq_eq_false_iff_ne.mpr c24
                have c24b1 : (t223 != 0) = true := bne_iff_ne.mpr c24
                (first | rw [c24b0] | (simp only [i64_w, i32_w]; rw [c24b0]) | rw [c24b1] | skip)
                replace H := Option.bind_eq_some_iff.mp H
                obtain ⟨⟨t226, t227, t230⟩, A250, H⟩ := H
                replace H : (hawserlaw16_ConfigChange.j1 k1 l1 x7_1 t230 x217000_1 x217001_1 t226 t227) = some r := H
                have A25 := Aside0.mk A250
                clear A250
                have H' := Aside0.mk H
                clear H
                try go_wp2
                have n0_ : Aside0 (Kd.R (Kd.int .i64) 3 ((w20.setCell ⟨gb224, 0, none⟩ (.int .i64 t219)).setCell ⟨gb224, 1, none⟩ (.slice Ao22 t220.length co22)) w.heap.size (fun k_ => some k_ ≠ (.slice Ao22 t220.length co22 : Value).ownBlock) (.slice Ao16 x217001_1.length co16) x217001_1) := ⟨by (with_reducible repeat (first | apply Kd.R_alloc | apply Kd.R_drewN | apply Kd.R_drew)); exact Kd.R_mono (Kd.R_far (p := ⟨gb224, 1, none⟩) (Kd.R_far (p := ⟨gb224, 0, none⟩) (Kd.R_types HO_217001.out BK224.out (by decide)) (fun _ hk => hk.2) (.int .i64 t219)) (fun _ hk => hk.2) (.slice Ao22 t220.length co22)) (fun _ hk => hk.1)⟩
                have n1_ : Aside0 (Kd.R (Kd.int .i64) 3 ((w20.setCell ⟨gb224, 0, none⟩ (.int .i64 t219)).setCell ⟨gb224, 1, none⟩ (.slice Ao22 t220.length co22)) w.heap.size (fun k_ => some k_ ≠ (.slice Ao16 x217001_1.length co16 : Value).ownBlock) (.slice Ao22 t220.length co22) t220) := ⟨by (with_reducible repeat (first | apply Kd.R_alloc | apply Kd.R_drewN | apply Kd.R_drew)); exact Kd.R_mono (Kd.R_far (p := ⟨gb224, 1, none⟩) (Kd.R_far (p := ⟨gb224, 0, none⟩) (Kd.R_types HO222.out BK224.out (by decide)) (fun _ hk => hk.2) (.int .i64 t219)) (fun _ hk => hk.2) (.slice Ao22 t220.length co22)) (fun _ hk => hk.1)⟩
                have n2_ : Aside0 (((w20.setCell ⟨gb224, 0, none⟩ (.int .i64 t219)).setCell ⟨gb224, 1, none⟩ (.slice Ao22 t220.length co22)).heap[gb216]? = some (.cells #[.int .i64 x217000_1, .slice Ao16 x217001_1.length co16] 32 (0, 0))) := ⟨by (with_reducible repeat (first | refine blk_drewN ?_ _ | refine blk_drew ?_ | refine blk_alloc ?_ _)); refine blk_far ?_ NB216_224.out _; (with_reducible repeat (first | refine blk_drewN ?_ _ | refine blk_drew ?_ | refine blk_alloc ?_ _)); refine blk_far ?_ NB216_224.out _; (with_reducible repeat (first | refine blk_drewN ?_ _ | refine blk_drew ?_ | refine blk_alloc ?_ _)); exact BK216.out⟩
                have n3_ : Aside0 (((w20.setCell ⟨gb224, 0, none⟩ (.int .i64 t219)).setCell ⟨gb224, 1, none⟩ (.slice Ao22 t220.length co22)).heap[gb224]? = some (.cells #[.int .i64 t219, .slice Ao22 t220.length co22] 32 (0, 0))) := ⟨by (with_reducible repeat (first | refine blk_drewN ?_ _ | refine blk_drew ?_ | refine blk_alloc ?_ _)); refine blk_put (cs := #[.int .i64 t219, .slice none 0 0]) ?_ 1 _ rfl; (with_reducible repeat (first | refine blk_drewN ?_ _ | refine blk_drew ?_ | refine blk_alloc ?_ _)); refine blk_put (cs := #[.int .i64 0, .slice none 0 0]) ?_ 0 _ rfl; (with_reducible repeat (first | refine blk_drewN ?_ _ | refine blk_drew ?_ | refine blk_alloc ?_ _)); exact BK224.out⟩
                have n4_ : Aside0 (Below w.heap.size w ((w20.setCell ⟨gb224, 0, none⟩ (.int .i64 t219)).setCell ⟨gb224, 1, none⟩ (.slice Ao22 t220.length co22))) := ⟨by repeat (first | (with_reducible first | exact HB.out | apply below_alloc | apply pw_below_drewN | apply below_drew1 | refine below_set ?_ GE216.out | refine below_set ?_ GE224.out) | exact HB.out)⟩
                (try clear HO_217001)
                (try clear HO222)
                (try clear BK216)
                (try clear BK224)
                (try clear HB)
                generalize ((w20.setCell ⟨gb224, 0, none⟩ (.int .i64 t219)).setCell ⟨gb224, 1, none⟩ (.slice Ao22 t220.length co22)) = w26 at n0_ n1_ n2_ n3_ n4_ ⊢
                have HO_217001 := n0_
                have HO222 := n1_
                have BK216 := n2_
                have BK224 := n3_
                have HB := n4_
                clear n0_ n1_ n2_ n3_ n4_
                have n0_ := Aside0.mk (Kd.R_drew HO_217001.out)
                have n1_ := Aside0.mk (Kd.R_drew HO222.out)
                have n2_ := Aside0.mk (blk_drew BK216.out)
                have n3_ := Aside0.mk (blk_drew BK224.out)
                have n4_ := Aside0.mk (below_drew1 HB.out)
                clear HO_217001
                clear HO222
                clear BK216
                clear BK224
                clear HB
                have HO_217001 := n0_
                have HO222 := n1_
                have BK216 := n2_
                have BK224 := n3_
                have HB := n4_
                clear n0_ n1_ n2_ n3_ n4_
                have p225 : 0 ≤ (x7_1 : Int) := of_decide_eq_true (by first | (with_reducible assumption) | assumption)
                have q225 : x7_1 < (l1.length : Int) := of_decide_eq_true (by first | (with_reducible assumption) | assumption)
                obtain ⟨ad225, e225, hx225_0⟩ := Kd.at_int HR1.out x7_1 p225 q225
                have hw225_0 := hx225_0
                obtain rfl : ad218 = ad225 := (by injection e225)
                replace hx225_0 := (HB.out.cell (World.block_lt_of_cell? w _ hx225_0)).trans hx225_0
                replace p225 := eq_true p225
                replace q225 := eq_true q225
                refine start_ (n := 11) (S := fun w' => w'.cell? ⟨gb216, 0, none⟩ = some (.int .i64 x217000_1) ∧ w'.cell? ⟨gb216, 1, none⟩ = some (.slice Ao16 x217001_1.length co16) ∧ w'.cell? (ad218.add (x7_1).toNat) = some (.int .i64 (rd l1 x7_1))) (ds := []) #[false, false, false, false, false, false, false, false, false, false, false] (by kernel_rfl) rfl rfl ⟨(blk_cell BK216.out 0).trans rfl, (blk_cell BK216.out 1).trans rfl, ((HB.out.cell (World.block_lt_of_cell? w _ hw225_0)).trans hw225_0)⟩ (fun hHeld => ?_); refine with_tabW hawserlaw16_ConfigChange.tab9 hawserlaw16_ConfigChange.bits9 (fun HT_ HW_ => ?_)
                generalize w26.drew = w27 at HO_217001 HO222 BK216 BK224 HB hx225_0 hHeld ⊢
                refine pure_ (i := 1) (N := some 39) (v := ?_) (a' := ?_) #[false, true, false, false, false, false, false, false, false, false, false] rfl rfl (any_of HT_.out (by kernel_rfl)) (fun _ _ _ h => h) (Or.inl ⟨by rfl, ?_⟩) ?_ ?_
                rotate_left
                · intro w'
                  go_simp
                  with_reducible rfl
                rotate_left
                · simp only [Act.put, List.setIfInBounds_toArray, List.set_cons_zero, List.set_cons_succ, i64_w, i32_w]
                  rfl
                refine pure_ (i := 2) (N := some 40) (v := ?_) (a' := ?_) #[false, true, true, false, false, false, false, false, false, false, false] rfl rfl (any_of HT_.out (by kernel_rfl)) (fun _ _ _ h => h) (Or.inl ⟨by rfl, ?_⟩) ?_ ?_
                rotate_left
                · intro w'
                  go_simp
                  with_reducible rfl
                rotate_left
                · simp only [Act.put, List.setIfInBounds_toArray, List.set_cons_zero, List.set_cons_succ, i64_w, i32_w]
                  rfl
                refine pure_ (i := 3) (N := some 41) (v := ?_) (a' := ?_) #[false, true, true, true, false, false, false, false, false, false, false] rfl rfl (any_of HT_.out (by kernel_rfl)) (fun _ _ _ h => h) (Or.inl ⟨by rfl, ?_⟩) ?_ ?_
                rotate_left
                · intro w'
                  go_simp
                  with_reducible rfl
                rotate_left
                · simp only [Act.put, List.setIfInBounds_toArray, List.set_cons_zero, List.set_cons_succ, i64_w, i32_w]
                  rfl
                refine take_ (i := 0) (N := some 38) (v := ?_) (a' := ?_) #[true, true, true, true, false, false, false, false, false, false, false] rfl rfl (take_ofW HT_.out HW_.out (by kernel_rfl)) (fun _ _ _ h => h) (Or.inl ⟨by rfl, ?_⟩) hHeld ?_ ?_
                rotate_left
                · rintro w' ⟨s0, s1, s2⟩
                  go_simp
                  with_reducible rfl
                rotate_left
                · simp only [Act.put, List.setIfInBounds_toArray, List.set_cons_zero, List.set_cons_succ, i64_w, i32_w]
                  rfl
                refine take_ (i := 4) (N := some 42) (v := ?_) (a' := ?_) #[true, true, true, true, true, false, false, false, false, false, false] rfl rfl (take_ofW HT_.out HW_.out (by kernel_rfl)) (fun _ _ _ h => h) (Or.inl ⟨by rfl, ?_⟩) hHeld ?_ ?_
                rotate_left
                · rintro w' ⟨s0, s1, s2⟩
                  go_simp
                  with_reducible rfl
                rotate_left
                · simp only [Act.put, List.setIfInBounds_toArray, List.set_cons_zero, List.set_cons_succ, i64_w, i32_w]
                  rfl
                refine one_ (i := 5) (N := some 43) #[true, true, true, true, true, true, false, false, false, false, false] rfl rfl (one_of HT_.out (by kernel_rfl)) (by decide) (fun K hK => ?_)
                refine goes_ Try.func40 (by kernel_rfl) rfl #[.agg #[.int .i64 x217000_1, .slice Ao16 x217001_1.length co16], .int .i64 (rd l1 x7_1)] (by rfl) rfl rfl (by (try simp only [List.map_toArray, List.map_cons, List.map_nil]); first | done | rfl | (simp only [List.length_drop, List.length_take]; rfl)) ?_
                with_reducible refine (config_With.calls k1 x217000_1 (fun k_ => some k_ = (.slice Ao16 x217001_1.length co16 : Value).ownBlock) _ _ x217001_1 (rd l1 x7_1) t226 t227 t230 _ ?side1 A25.out).mono ?_
                (case side1 => exact Kd.R_V (Kd.R_tight rfl (Kd.R_types (Kd.R_types (HO_217001.out) BK216.out (by decide)) BK224.out (by decide))))
                rintro e w28 ⟨v228, rfl, ho0, hb⟩
                refine ⟨_, rfl, ?_⟩
                have n0_ := Aside0.mk (Kd.R_elder' (by (with_reducible repeat (first | apply Kd.R_alloc | apply Kd.R_drewN | apply Kd.R_drew)); exact HO_217001.out) (Kd.R_base ho0) hb)
                have n1_ := Aside0.mk (Kd.R_elder' (by (with_reducible repeat (first | apply Kd.R_alloc | apply Kd.R_drewN | apply Kd.R_drew)); exact HO222.out) (Kd.R_base ho0) hb)
                have n2_ := Aside0.mk (Kd.R_lower (Kd.R_new' (Kd.R_new' (Kd.R_mono (ok' := fun k_ => True) ho0 (fun _ hk_ => trivial)) (Kd.R_lt (by (with_reducible repeat (first | apply Kd.R_alloc | apply Kd.R_drewN | apply Kd.R_drew)); exact HO_217001.out))) (Kd.R_lt (by (with_reducible repeat (first | apply Kd.R_alloc | apply Kd.R_drewN | apply Kd.R_drew)); exact HO222.out))) (below_size (by repeat (first | (with_reducible first | exact HB.out | apply below_alloc | apply pw_below_drewN | apply below_drew1 | refine below_set ?_ GE216.out | refine below_set ?_ GE224.out) | exact HB.out))))
                have n3_ := Aside0.mk (blk_below (g := gb216) (o := .cells #[.int .i64 x217000_1, .slice Ao16 x217001_1.length co16] 32 (0, 0)) (by (with_reducible repeat (first | refine blk_drewN ?_ _ | refine blk_drew ?_ | refine blk_alloc ?_ _)); exact BK216.out) hb)
                have n4_ := Aside0.mk (blk_below (g := gb224) (o := .cells #[.int .i64 t219, .slice Ao22 t220.length co22] 32 (0, 0)) (by (with_reducible repeat (first | refine blk_drewN ?_ _ | refine blk_drew ?_ | refine blk_alloc ?_ _)); exact BK224.out) hb)
                have n5_ := Aside0.mk (below_step (by repeat (first | (with_reducible first | exact HB.out | apply below_alloc | apply pw_below_drewN | apply below_drew1 | refine below_set ?_ GE216.out | refine below_set ?_ GE224.out) | exact HB.out)) hb)
                clear HO_217001
                clear HO222
                clear BK216
                clear BK224
                clear HB
                have HO_217001 := n0_
                have HO222 := n1_
                have HO229 := n2_
                have BK216 := n3_
                have BK224 := n4_
                have HB := n5_
                clear n0_ n1_ n2_ n3_ n4_ n5_
                (try clear hb)
                (try clear hb2)
                (try clear hk)
                (try clear hi)
                (try clear ho0)
                obtain ⟨Ao30, co30, eo30⟩ := Kd.R_slice HO229.out
                (first | subst eo30 | (injection eo30 with f1_ f2_ f3_; have f4_ := f1_.symm; have f5_ := f3_.symm; clear f1_ f2_ f3_; subst f4_; subst f5_))
                refine hK.out _ _ ⟨(blk_cell BK216.out 0).trans rfl, (blk_cell BK216.out 1).trans rfl, ((HB.out.cell (World.block_lt_of_cell? w _ hw225_0)).trans hw225_0)⟩ (fun hHeld => ?_)
                clear hK K
                refine norm_ (a' := ?_) ?_ ?_
                rotate_left
                · show Act.put _ (some 43) _ = _
                  simp only [Act.put, List.setIfInBounds_toArray, List.set_cons_zero, List.set_cons_succ, i64_w, i32_w]
                  rfl
                refine pure_ (i := 6) (N := some 37) (v := ?_) (a' := ?_) #[true, true, true, true, true, true, true, false, false, false, false] rfl rfl (any_of HT_.out (by kernel_rfl)) (fun _ _ _ h => h) (Or.inl ⟨by rfl, ?_⟩) ?_ ?_
                rotate_left
                · intro w'
                  go_simp
                  with_reducible rfl
                rotate_left
                · simp only [Act.put, List.setIfInBounds_toArray, List.set_cons_zero, List.set_cons_succ, i64_w, i32_w]
                  rfl
                refine pure_ (i := 7) (N := some 44) (v := ?_) (a' := ?_) #[true, true, true, true, true, true, true, true, false, false, false] rfl rfl (any_of HT_.out (by kernel_rfl)) (fun _ _ _ h => h) (Or.inl ⟨by rfl, ?_⟩) ?_ ?_
                rotate_left
                · intro w'
                  go_simp
                  with_reducible rfl
                rotate_left
                · simp only [Act.put, List.setIfInBounds_toArray, List.set_cons_zero, List.set_cons_succ, i64_w, i32_w]
                  rfl
                refine pure_ (i := 8) (N := some 45) (v := ?_) (a' := ?_) #[true, true, true, true, true, true, true, true, true, false, false] rfl rfl (any_of HT_.out (by kernel_rfl)) (fun _ _ _ h => h) (Or.inl ⟨by rfl, ?_⟩) ?_ ?_
                rotate_left
                · intro w'
                  go_simp
                  with_reducible rfl
                rotate_left
                · simp only [Act.put, List.setIfInBounds_toArray, List.set_cons_zero, List.set_cons_succ, i64_w, i32_w]
                  rfl
                refine one_ (i := 9) (N := none) #[true, true, true, true, true, true, true, true, true, true, false] rfl rfl (one_of HT_.out (by kernel_rfl)) (by decide) (fun K hK => ?_)
                have hs29 : w28.cell? ⟨gb224, 0, none⟩ = some (.int .i64 t219) := (blk_cell BK224.out 0).trans rfl
                have hfs29 := blk_frozen BK224.out 0
                have hns29_0 := NB216_224.out
                have hms29_0 := NB224_216.out
                have hs31 : w28.cell? ⟨gb224, 1, none⟩ = some (.slice Ao22 t220.length co22) := (blk_cell BK224.out 1).trans rfl
                have hfs31 := blk_frozen BK224.out 1
                have hns31_0 := NB216_224.out
                have hms31_0 := NB224_216.out
                refine skip_ (w1 := ?_) (by rfl) rfl ?_ ?_
                rotate_left
                · go_simp
                  rfl
                refine hK.out _ _ ⟨((cell_far (p := ⟨gb224, _, none⟩) NB216_224.out _).trans (((cell_far (p := ⟨gb224, _, none⟩) NB216_224.out _).trans (hHeld.1)))), ((cell_far (p := ⟨gb224, _, none⟩) NB216_224.out _).trans (((cell_far (p := ⟨gb224, _, none⟩) NB216_224.out _).trans (hHeld.2.1)))), ((cell_far (p := ⟨gb224, _, none⟩) (by first | exact Nat.ne_of_lt (Nat.lt_of_lt_of_le (by have := World.block_lt_of_cell? _ _ hw225_0; first | rwa [add_block] at this | exact this) GW224.out) | (rw [add_block]; exact Nat.ne_of_lt (Nat.lt_of_lt_of_le (by have := World.block_lt_of_cell? _ _ hw225_0; first | rwa [add_block] at this | exact this) GW224.out)) | (show (Addr.add _ _).block ≠ _; rw [add_block]; exact Nat.ne_of_lt (Nat.lt_of_lt_of_le (by have := World.block_lt_of_cell? _ _ hw225_0; first | rwa [add_block] at this | exact this) GW224.out)) | (dsimp only; exact Nat.ne_of_lt (Nat.lt_of_lt_of_le (by have := World.block_lt_of_cell? _ _ hw225_0; first | rwa [add_block] at this | exact this) GW224.out))) _).trans (((cell_far (p := ⟨gb224, _, none⟩) (by first | exact Nat.ne_of_lt (Nat.lt_of_lt_of_le (by have := World.block_lt_of_cell? _ _ hw225_0; first | rwa [add_block] at this | exact this) GW224.out) | (rw [add_block]; exact Nat.ne_of_lt (Nat.lt_of_lt_of_le (by have := World.block_lt_of_cell? _ _ hw225_0; first | rwa [add_block] at this | exact this) GW224.out)) | (show (Addr.add _ _).block ≠ _; rw [add_block]; exact Nat.ne_of_lt (Nat.lt_of_lt_of_le (by have := World.block_lt_of_cell? _ _ hw225_0; first | rwa [add_block] at this | exact this) GW224.out)) | (dsimp only; exact Nat.ne_of_lt (Nat.lt_of_lt_of_le (by have := World.block_lt_of_cell? _ _ hw225_0; first | rwa [add_block] at this | exact this) GW224.out))) _).trans (hHeld.2.2))))⟩ (fun hHeld => ?_)
                clear hK K
                refine pure_ (i := 10) (N := some 9) (v := ?_) (a' := ?_) #[true, true, true, true, true, true, true, true, true, true, true] rfl rfl (any_of HT_.out (by kernel_rfl)) (fun _ _ _ h => h) (Or.inl ⟨by rfl, ?_⟩) ?_ ?_
                rotate_left
                · intro w'
                  go_simp
                  with_reducible rfl
                rotate_left
                · simp only [Act.put, List.setIfInBounds_toArray, List.set_cons_zero, List.set_cons_succ, i64_w, i32_w]
                  rfl
                refine done_ (done_of HT_.out (by kernel_rfl)) ?_
                try go_wp2
                go_meet
                case rel => exact ⟨_, (t230), (t226), (t227), (.slice Ao30 t227.length co30), (by first | rfl | (simp; done) | (simp [*]; done)), H', ⟨by have := HK1.out; first | omega | exact Nat.le_refl _⟩, ⟨by (with_reducible repeat (first | apply Kd.R_alloc | apply Kd.R_drewN | apply Kd.R_drew)); exact Kd.R_mono (Kd.R_far (p := ⟨gb224, 1, none⟩) (Kd.R_far (p := ⟨gb224, 0, none⟩) (Kd.R_types HO_217001.out BK224.out (by decide)) (fun _ hk => hk.2) (.int .i64 t226)) (fun _ hk => hk.2) (.slice Ao30 t227.length co30)) (fun _ hk => hk.1.2)⟩, ⟨by (with_reducible repeat (first | apply Kd.R_alloc | apply Kd.R_drewN | apply Kd.R_drew)); exact Kd.R_mono (Kd.R_far (p := ⟨gb224, 1, none⟩) (Kd.R_far (p := ⟨gb224, 0, none⟩) (Kd.R_types HO229.out BK224.out (by decide)) (fun _ hk => hk.2) (.int .i64 t226)) (fun _ hk => hk.2) (.slice Ao30 t227.length co30)) (fun _ hk => hk.1.1.2)⟩, ⟨by (with_reducible repeat (first | refine blk_drewN ?_ _ | refine blk_drew ?_ | refine blk_alloc ?_ _)); refine blk_far ?_ NB216_224.out _; (with_reducible repeat (first | refine blk_drewN ?_ _ | refine blk_drew ?_ | refine blk_alloc ?_ _)); refine blk_far ?_ NB216_224.out _; (with_reducible repeat (first | refine blk_drewN ?_ _ | refine blk_drew ?_ | refine blk_alloc ?_ _)); exact BK216.out⟩, ⟨by (with_reducible repeat (first | refine blk_drewN ?_ _ | refine blk_drew ?_ | refine blk_alloc ?_ _)); refine blk_put (cs := #[.int .i64 t226, .slice Ao22 t220.length co22]) ?_ 1 _ rfl; (with_reducible repeat (first | refine blk_drewN ?_ _ | refine blk_drew ?_ | refine blk_alloc ?_ _)); refine blk_put (cs := #[.int .i64 t219, .slice Ao22 t220.length co22]) ?_ 0 _ rfl; (with_reducible repeat (first | refine blk_drewN ?_ _ | refine blk_drew ?_ | refine blk_alloc ?_ _)); exact BK224.out⟩, ⟨by repeat (first | (with_reducible first | exact HB.out | apply below_alloc | apply pw_below_drewN | apply below_drew1 | refine below_set ?_ GE216.out | refine below_set ?_ GE224.out) | exact HB.out)⟩⟩
            case rest =>
              clear HC15
              try clear c1
              try clear c2
              try clear p2
              try clear q2
              try clear hx2
              try clear c3
              try clear c4
              try clear c5
              try clear c5b0
              try clear c5b1
              try clear c12
              try clear c12b0
              try clear c13
              try clear c13b0
              try clear c20
              try clear p21
              try clear q21
              try clear hx21
              try clear p22
              try clear q22
              try clear hx22
              try clear c24
              try clear c24b0
              try clear c24b1
              try clear hcz10_0
              try clear hcz10_1
              try clear hfz10_0
              try clear hfz10_1
              try clear hx218_0
              try clear hx225_0
              try clear p2
              try clear p218
              try clear p225
              try clear q218
              try clear q225
              obtain ⟨kq, x9_14, x225000_14, x225001_14, u225001, rfl, HA, HJ14, HO_217001, HO_225001, BK216, BK224, HB⟩ := hcut
              cases kq with
              | zero => exact absurd HA.out (by simp [hawserlaw16_ConfigChange.j1])
              | succ kj14 =>
                have H := HA.out
                clear HA
                simp only [hawserlaw16_ConfigChange.j1] at H
                by_cases c32 : x9_14 = 0
                · rw [if_pos c32] at H
                  have c32b0 : (x9_14 == 0) = true := beq_iff_eq.mpr c32
                  have c32b1 : (x9_14 != 0) = false := bne_eq_false_iff_eq.mpr c32
                  clear c32
                  have HC33 := Aside0.mk H
                  clear H
                  go_upto_region 11 with (fail)
                  go_cut [72] (fun v72 wc => ∃ (kq : Nat) (x72_32 : Bool), v72 = .bool x72_32 ∧ Aside0 (hawserlaw16_ConfigChange.j2 kq l1 x7_1 x72_32 x217000_1 x217001_1 x225000_14 x225001_14 = some r) ∧ Aside0 (kq ≤ kj14) ∧ Aside0 (Kd.R (Kd.int .i64) 3 wc w.heap.size (fun k_ => some k_ ≠ (u225001 : Value).ownBlock) (.slice Ao16 x217001_1.length co16) x217001_1) ∧ Aside0 (Kd.R (Kd.int .i64) 3 wc w.heap.size (fun k_ => some k_ ≠ ((.slice Ao16 x217001_1.length co16) : Value).ownBlock) u225001 x225001_14) ∧ Aside0 (wc.heap[gb216]? = some (.cells #[.int .i64 x217000_1, (.slice Ao16 x217001_1.length co16)] 32 (0, 0))) ∧ Aside0 (wc.heap[gb224]? = some (.cells #[.int .i64 x225000_14, u225001] 32 (0, 0))) ∧ Aside0 (Below w.heap.size w wc))
                  case first =>
                    have H := HC33.out
                    clear HC33
                    replace H := Option.bind_eq_some_iff.mp H
                    obtain ⟨t231, A340, H⟩ := H
                    replace H : (if t231 = true then ((config_Follows.f kj14 x225000_14 x225001_14 x217000_1 x217001_1).bind fun t232 => (if t232 = true then (hawserlaw16_ConfigChange.j2 kj14 l1 x7_1 true x217000_1 x217001_1 x225000_14 x225001_14) else (if x225000_14 = (wrap64 (x217000_1 + 1)) then ((hawserlaw16_ordered.f kj14 x217001_1 x225001_14).bind fun t233 => (hawserlaw16_ConfigChange.j2 kj14 l1 x7_1 (!t233) x217000_1 x217001_1 x225000_14 x225001_14)) else (hawserlaw16_ConfigChange.j2 kj14 l1 x7_1 true x217000_1 x217001_1 x225000_14 x225001_14)))) else (hawserlaw16_ConfigChange.j2 kj14 l1 x7_1 true x217000_1 x217001_1 x225000_14 x225001_14)) = some r := H
                    have A34 := Aside0.mk A340
                    clear A340
                    by_cases c35 : t231 = true
                    · subst c35
                      have H1 : ((config_Follows.f kj14 x225000_14 x225001_14 x217000_1 x217001_1).bind fun t232 => (if t232 = true then (hawserlaw16_ConfigChange.j2 kj14 l1 x7_1 true x217000_1 x217001_1 x225000_14 x225001_14) else (if x225000_14 = (wrap64 (x217000_1 + 1)) then ((hawserlaw16_ordered.f kj14 x217001_1 x225001_14).bind fun t233 => (hawserlaw16_ConfigChange.j2 kj14 l1 x7_1 (!t233) x217000_1 x217001_1 x225000_14 x225001_14)) else (hawserlaw16_ConfigChange.j2 kj14 l1 x7_1 true x217000_1 x217001_1 x225000_14 x225001_14)))) = some r := by rw [if_pos rfl] at H; exact H
                      clear H
                      have H := H1
                      clear H1
                      replace H := Option.bind_eq_some_iff.mp H
                      obtain ⟨t232, A360, H⟩ := H
                      replace H : (if t232 = true then (hawserlaw16_ConfigChange.j2 kj14 l1 x7_1 true x217000_1 x217001_1 x225000_14 x225001_14) else (if x225000_14 = (wrap64 (x217000_1 + 1)) then ((hawserlaw16_ordered.f kj14 x217001_1 x225001_14).bind fun t233 => (hawserlaw16_ConfigChange.j2 kj14 l1 x7_1 (!t233) x217000_1 x217001_1 x225000_14 x225001_14)) else (hawserlaw16_ConfigChange.j2 kj14 l1 x7_1 true x217000_1 x217001_1 x225000_14 x225001_14))) = some r := H
                      have A36 := Aside0.mk A360
                      clear A360
                      by_cases c37 : t232 = true
                      · subst c37
                        have H1 : (hawserlaw16_ConfigChange.j2 kj14 l1 x7_1 true x217000_1 x217001_1 x225000_14 x225001_14) = some r := by rw [if_pos rfl] at H; exact H
                        clear H
                        have H := H1
                        clear H1
                        have H' := Aside0.mk H
                        clear H
                        have hnb38 := NB216_224.out
                        have hnc38 := NB224_216.out
                        have hcz39_0 : wc.cell? ⟨gb216, 0, none⟩ = some (.int .i64 x217000_1) := (blk_cell BK216.out 0).trans rfl
                        have hcz39_1 : wc.cell? ⟨gb216, 1, none⟩ = some (.slice Ao16 x217001_1.length co16) := (blk_cell BK216.out 1).trans rfl
                        have hfz39_0 := blk_frozen BK216.out 0
                        have hfz39_1 := blk_frozen BK216.out 1
                        have hcz40_0 : wc.cell? ⟨gb224, 0, none⟩ = some (.int .i64 x225000_14) := (blk_cell BK224.out 0).trans rfl
                        have hcz40_1 : wc.cell? ⟨gb224, 1, none⟩ = some (u225001) := (blk_cell BK224.out 1).trans rfl
                        have hfz40_0 := blk_frozen BK224.out 0
                        have hfz40_1 := blk_frozen BK224.out 1
                        obtain ⟨Ao41, co41, eo41⟩ := Kd.R_slice HO_225001.out
                        subst eo41
                        go_wp2_with (first | ((with_reducible refine gate_callee (f := 27) rfl ?_); refine goesL_ (some 50) rfl rfl Try.func27 (by kernel_rfl) rfl #[.agg #[.int .i64 x217000_1, .slice Ao16 x217001_1.length co16], .agg #[.int .i64 x225000_14, .slice Ao41 x225001_14.length co41]] rfl (by (try simp only [List.map_toArray, List.map_cons, List.map_nil]); first | done | rfl | (simp only [List.length_drop, List.length_take]; rfl)) ?_; (with_reducible refine (config_Follows.calls kj14 x217000_1 (fun k_ => some k_ = (.slice Ao16 x217001_1.length co16 : Value).ownBlock) _ _ x217001_1 x225000_14 (fun k_ => some k_ = (.slice Ao41 x225001_14.length co41 : Value).ownBlock) _ _ x225001_14 true _ ?side1 ?side2 A34.out).mono ?_); (case side1 => exact Kd.R_V (Kd.R_tight rfl (Kd.R_types (Kd.R_types (HO_217001.out) BK216.out (by decide)) BK224.out (by decide)))); (case side2 => exact Kd.R_V (Kd.R_tight rfl (Kd.R_types (Kd.R_types (HO_225001.out) BK216.out (by decide)) BK224.out (by decide)))); rintro e w42 ⟨rfl, hb⟩; refine ⟨_, rfl, ?_⟩; have n0_ := Aside0.mk (Kd.R_below (by (with_reducible repeat (first | apply Kd.R_alloc | apply Kd.R_drewN | apply Kd.R_drew)); exact HO_217001.out) hb); have n1_ := Aside0.mk (Kd.R_below (by (with_reducible repeat (first | apply Kd.R_alloc | apply Kd.R_drewN | apply Kd.R_drew)); exact HO_225001.out) hb); have n2_ := Aside0.mk (blk_below (g := gb216) (o := .cells #[.int .i64 x217000_1, .slice Ao16 x217001_1.length co16] 32 (0, 0)) (by (with_reducible repeat (first | refine blk_drewN ?_ _ | refine blk_drew ?_ | refine blk_alloc ?_ _)); exact BK216.out) hb); have n3_ := Aside0.mk (blk_below (g := gb224) (o := .cells #[.int .i64 x225000_14, .slice Ao41 x225001_14.length co41] 32 (0, 0)) (by (with_reducible repeat (first | refine blk_drewN ?_ _ | refine blk_drew ?_ | refine blk_alloc ?_ _)); exact BK224.out) hb); have n4_ := Aside0.mk (below_step (by repeat (first | (with_reducible first | exact HB.out | apply below_alloc | apply pw_below_drewN | apply below_drew1 | refine below_set ?_ GE216.out | refine below_set ?_ GE224.out) | exact HB.out)) hb); clear HO_217001; clear HO_225001; clear BK216; clear BK224; clear HB; have HO_217001 := n0_; have HO_225001 := n1_; have BK216 := n2_; have BK224 := n3_; have HB := n4_; clear n0_ n1_ n2_ n3_ n4_; (try clear hb); (try clear hb2); (try clear hk); (try clear hi); have hcz43_0 : w42.cell? ⟨gb224, 0, none⟩ = some (.int .i64 x225000_14) := (blk_cell BK224.out 0).trans rfl; have hcz43_1 : w42.cell? ⟨gb224, 1, none⟩ = some (.slice Ao41 x225001_14.length co41) := (blk_cell BK224.out 1).trans rfl; have hfz43_0 := blk_frozen BK224.out 0; have hfz43_1 := blk_frozen BK224.out 1; have hcz44_0 : w42.cell? ⟨gb216, 0, none⟩ = some (.int .i64 x217000_1) := (blk_cell BK216.out 0).trans rfl; have hcz44_1 : w42.cell? ⟨gb216, 1, none⟩ = some (.slice Ao16 x217001_1.length co16) := (blk_cell BK216.out 1).trans rfl; have hfz44_0 := blk_frozen BK216.out 0; have hfz44_1 := blk_frozen BK216.out 1) | (go_at_call 27; (with_reducible refine (config_Follows.calls kj14 x225000_14 (fun k_ => some k_ = (.slice Ao41 x225001_14.length co41 : Value).ownBlock) _ _ x225001_14 x217000_1 (fun k_ => some k_ = (.slice Ao16 x217001_1.length co16 : Value).ownBlock) _ _ x217001_1 true _ ?side1 ?side2 A36.out).mono ?_); (case side1 => exact Kd.R_V (Kd.R_tight rfl (Kd.R_types (Kd.R_types (HO_225001.out) BK216.out (by decide)) BK224.out (by decide)))); (case side2 => exact Kd.R_V (Kd.R_tight rfl (Kd.R_types (Kd.R_types (HO_217001.out) BK216.out (by decide)) BK224.out (by decide)))); rintro e w45 ⟨rfl, hb⟩; have n0_ := Aside0.mk (Kd.R_below (by (with_reducible repeat (first | apply Kd.R_alloc | apply Kd.R_drewN | apply Kd.R_drew)); exact HO_217001.out) hb); have n1_ := Aside0.mk (Kd.R_below (by (with_reducible repeat (first | apply Kd.R_alloc | apply Kd.R_drewN | apply Kd.R_drew)); exact HO_225001.out) hb); have n2_ := Aside0.mk (blk_below (g := gb216) (o := .cells #[.int .i64 x217000_1, .slice Ao16 x217001_1.length co16] 32 (0, 0)) (by (with_reducible repeat (first | refine blk_drewN ?_ _ | refine blk_drew ?_ | refine blk_alloc ?_ _)); exact BK216.out) hb); have n3_ := Aside0.mk (blk_below (g := gb224) (o := .cells #[.int .i64 x225000_14, .slice Ao41 x225001_14.length co41] 32 (0, 0)) (by (with_reducible repeat (first | refine blk_drewN ?_ _ | refine blk_drew ?_ | refine blk_alloc ?_ _)); exact BK224.out) hb); have n4_ := Aside0.mk (below_step (by repeat (first | (with_reducible first | exact HB.out | apply below_alloc | apply pw_below_drewN | apply below_drew1 | refine below_set ?_ GE216.out | refine below_set ?_ GE224.out) | exact HB.out)) hb); clear HO_217001; clear HO_225001; clear BK216; clear BK224; clear HB; have HO_217001 := n0_; have HO_225001 := n1_; have BK216 := n2_; have BK224 := n3_; have HB := n4_; clear n0_ n1_ n2_ n3_ n4_; (try clear hb); (try clear hb2); (try clear hk); (try clear hi)))
                        go_meet
                        case rel => exact ⟨_, (true), (by first | rfl | (simp; done) | (simp [*]; done)), H', ⟨by have := HK1.out; have := HJ14.out; first | omega | exact Nat.le_refl _⟩, ⟨by (with_reducible repeat (first | apply Kd.R_alloc | apply Kd.R_drewN | apply Kd.R_drew)); exact HO_217001.out⟩, ⟨by (with_reducible repeat (first | apply Kd.R_alloc | apply Kd.R_drewN | apply Kd.R_drew)); exact HO_225001.out⟩, ⟨by (with_reducible repeat (first | refine blk_drewN ?_ _ | refine blk_drew ?_ | refine blk_alloc ?_ _)); exact BK216.out⟩, ⟨by (with_reducible repeat (first | refine blk_drewN ?_ _ | refine blk_drew ?_ | refine blk_alloc ?_ _)); exact BK224.out⟩, ⟨by repeat (first | (with_reducible first | exact HB.out | apply below_alloc | apply pw_below_drewN | apply below_drew1 | refine below_set ?_ GE216.out | refine below_set ?_ GE224.out) | exact HB.out)⟩⟩
                      · replace c37 := Bool.eq_false_iff.mpr c37
                        subst c37
                        have H1 : (if x225000_14 = (wrap64 (x217000_1 + 1)) then ((hawserlaw16_ordered.f kj14 x217001_1 x225001_14).bind fun t233 => (hawserlaw16_ConfigChange.j2 kj14 l1 x7_1 (!t233) x217000_1 x217001_1 x225000_14 x225001_14)) else (hawserlaw16_ConfigChange.j2 kj14 l1 x7_1 true x217000_1 x217001_1 x225000_14 x225001_14)) = some r := by rw [if_neg (show ¬ (false = true) by decide)] at H; exact H
                        clear H
                        have H := H1
                        clear H1
                        by_cases c46 : x225000_14 = (wrap64 (x217000_1 + 1))
                        · rw [if_pos c46] at H
                          have c46b0 : (x225000_14 == (wrap64 (x217000_1 + 1))) = true := beq_iff_eq.mpr c46
                          have c46b1 : (x225000_14 != (wrap64 (x217000_1 + 1))) = false := bne_eq_false_iff_eq.mpr c46
                          clear c46
                          (first | rw [c46b0] | (simp only [i64_w, i32_w]; rw [c46b0]) | rw [c46b1] | skip)
                          replace H := Option.bind_eq_some_iff.mp H
                          obtain ⟨t233, A470, H⟩ := H
                          replace H : (hawserlaw16_ConfigChange.j2 kj14 l1 x7_1 (!t233) x217000_1 x217001_1 x225000_14 x225001_14) = some r := H
                          have A47 := Aside0.mk A470
                          clear A470
                          have H' := Aside0.mk H
                          clear H
                          have hnb48 := NB216_224.out
                          have hnc48 := NB224_216.out
                          have hcz49_0 : wc.cell? ⟨gb216, 0, none⟩ = some (.int .i64 x217000_1) := (blk_cell BK216.out 0).trans rfl
                          have hcz49_1 : wc.cell? ⟨gb216, 1, none⟩ = some (.slice Ao16 x217001_1.length co16) := (blk_cell BK216.out 1).trans rfl
                          have hfz49_0 := blk_frozen BK216.out 0
                          have hfz49_1 := blk_frozen BK216.out 1
                          have hcz50_0 : wc.cell? ⟨gb224, 0, none⟩ = some (.int .i64 x225000_14) := (blk_cell BK224.out 0).trans rfl
                          have hcz50_1 : wc.cell? ⟨gb224, 1, none⟩ = some (u225001) := (blk_cell BK224.out 1).trans rfl
                          have hfz50_0 := blk_frozen BK224.out 0
                          have hfz50_1 := blk_frozen BK224.out 1
                          obtain ⟨Ao51, co51, eo51⟩ := Kd.R_slice HO_225001.out
                          subst eo51
                          go_wp2_with (first | ((with_reducible refine gate_callee (f := 27) rfl ?_); refine goesL_ (some 50) rfl rfl Try.func27 (by kernel_rfl) rfl #[.agg #[.int .i64 x217000_1, .slice Ao16 x217001_1.length co16], .agg #[.int .i64 x225000_14, .slice Ao51 x225001_14.length co51]] rfl (by (try simp only [List.map_toArray, List.map_cons, List.map_nil]); first | done | rfl | (simp only [List.length_drop, List.length_take]; rfl)) ?_; (with_reducible refine (config_Follows.calls kj14 x217000_1 (fun k_ => some k_ = (.slice Ao16 x217001_1.length co16 : Value).ownBlock) _ _ x217001_1 x225000_14 (fun k_ => some k_ = (.slice Ao51 x225001_14.length co51 : Value).ownBlock) _ _ x225001_14 true _ ?side1 ?side2 A34.out).mono ?_); (case side1 => exact Kd.R_V (Kd.R_tight rfl (Kd.R_types (Kd.R_types (HO_217001.out) BK216.out (by decide)) BK224.out (by decide)))); (case side2 => exact Kd.R_V (Kd.R_tight rfl (Kd.R_types (Kd.R_types (HO_225001.out) BK216.out (by decide)) BK224.out (by decide)))); rintro e w52 ⟨rfl, hb⟩; refine ⟨_, rfl, ?_⟩; have n0_ := Aside0.mk (Kd.R_below (by (with_reducible repeat (first | apply Kd.R_alloc | apply Kd.R_drewN | apply Kd.R_drew)); exact HO_217001.out) hb); have n1_ := Aside0.mk (Kd.R_below (by (with_reducible repeat (first | apply Kd.R_alloc | apply Kd.R_drewN | apply Kd.R_drew)); exact HO_225001.out) hb); have n2_ := Aside0.mk (blk_below (g := gb216) (o := .cells #[.int .i64 x217000_1, .slice Ao16 x217001_1.length co16] 32 (0, 0)) (by (with_reducible repeat (first | refine blk_drewN ?_ _ | refine blk_drew ?_ | refine blk_alloc ?_ _)); exact BK216.out) hb); have n3_ := Aside0.mk (blk_below (g := gb224) (o := .cells #[.int .i64 x225000_14, .slice Ao51 x225001_14.length co51] 32 (0, 0)) (by (with_reducible repeat (first | refine blk_drewN ?_ _ | refine blk_drew ?_ | refine blk_alloc ?_ _)); exact BK224.out) hb); have n4_ := Aside0.mk (below_step (by repeat (first | (with_reducible first | exact HB.out | apply below_alloc | apply pw_below_drewN | apply below_drew1 | refine below_set ?_ GE216.out | refine below_set ?_ GE224.out) | exact HB.out)) hb); clear HO_217001; clear HO_225001; clear BK216; clear BK224; clear HB; have HO_217001 := n0_; have HO_225001 := n1_; have BK216 := n2_; have BK224 := n3_; have HB := n4_; clear n0_ n1_ n2_ n3_ n4_; (try clear hb); (try clear hb2); (try clear hk); (try clear hi); have hcz53_0 : w52.cell? ⟨gb224, 0, none⟩ = some (.int .i64 x225000_14) := (blk_cell BK224.out 0).trans rfl; have hcz53_1 : w52.cell? ⟨gb224, 1, none⟩ = some (.slice Ao51 x225001_14.length co51) := (blk_cell BK224.out 1).trans rfl; have hfz53_0 := blk_frozen BK224.out 0; have hfz53_1 := blk_frozen BK224.out 1; have hcz54_0 : w52.cell? ⟨gb216, 0, none⟩ = some (.int .i64 x217000_1) := (blk_cell BK216.out 0).trans rfl; have hcz54_1 : w52.cell? ⟨gb216, 1, none⟩ = some (.slice Ao16 x217001_1.length co16) := (blk_cell BK216.out 1).trans rfl; have hfz54_0 := blk_frozen BK216.out 0; have hfz54_1 := blk_frozen BK216.out 1) | (go_at_call 27; (with_reducible refine (config_Follows.calls kj14 x225000_14 (fun k_ => some k_ = (.slice Ao51 x225001_14.length co51 : Value).ownBlock) _ _ x225001_14 x217000_1 (fun k_ => some k_ = (.slice Ao16 x217001_1.length co16 : Value).ownBlock) _ _ x217001_1 false _ ?side1 ?side2 A36.out).mono ?_); (case side1 => exact Kd.R_V (Kd.R_tight rfl (Kd.R_types (Kd.R_types (HO_225001.out) BK216.out (by decide)) BK224.out (by decide)))); (case side2 => exact Kd.R_V (Kd.R_tight rfl (Kd.R_types (Kd.R_types (HO_217001.out) BK216.out (by decide)) BK224.out (by decide)))); rintro e w55 ⟨rfl, hb⟩; have n0_ := Aside0.mk (Kd.R_below (by (with_reducible repeat (first | apply Kd.R_alloc | apply Kd.R_drewN | apply Kd.R_drew)); exact HO_217001.out) hb); have n1_ := Aside0.mk (Kd.R_below (by (with_reducible repeat (first | apply Kd.R_alloc | apply Kd.R_drewN | apply Kd.R_drew)); exact HO_225001.out) hb); have n2_ := Aside0.mk (blk_below (g := gb216) (o := .cells #[.int .i64 x217000_1, .slice Ao16 x217001_1.length co16] 32 (0, 0)) (by (with_reducible repeat (first | refine blk_drewN ?_ _ | refine blk_drew ?_ | refine blk_alloc ?_ _)); exact BK216.out) hb); have n3_ := Aside0.mk (blk_below (g := gb224) (o := .cells #[.int .i64 x225000_14, .slice Ao51 x225001_14.length co51] 32 (0, 0)) (by (with_reducible repeat (first | refine blk_drewN ?_ _ | refine blk_drew ?_ | refine blk_alloc ?_ _)); exact BK224.out) hb); have n4_ := Aside0.mk (below_step (by repeat (first | (with_reducible first | exact HB.out | apply below_alloc | apply pw_below_drewN | apply below_drew1 | refine below_set ?_ GE216.out | refine below_set ?_ GE224.out) | exact HB.out)) hb); clear HO_217001; clear HO_225001; clear BK216; clear BK224; clear HB; have HO_217001 := n0_; have HO_225001 := n1_; have BK216 := n2_; have BK224 := n3_; have HB := n4_; clear n0_ n1_ n2_ n3_ n4_; (try clear hb); (try clear hb2); (try clear hk); (try clear hi); have hcz56_0 : w55.cell? ⟨gb224, 0, none⟩ = some (.int .i64 x225000_14) := (blk_cell BK224.out 0).trans rfl; have hcz56_1 : w55.cell? ⟨gb224, 1, none⟩ = some (.slice Ao51 x225001_14.length co51) := (blk_cell BK224.out 1).trans rfl; have hfz56_0 := blk_frozen BK224.out 0; have hfz56_1 := blk_frozen BK224.out 1; have hcz57_0 : w55.cell? ⟨gb216, 0, none⟩ = some (.int .i64 x217000_1) := (blk_cell BK216.out 0).trans rfl; have hcz57_1 : w55.cell? ⟨gb216, 1, none⟩ = some (.slice Ao16 x217001_1.length co16) := (blk_cell BK216.out 1).trans rfl; have hfz57_0 := blk_frozen BK216.out 0; have hfz57_1 := blk_frozen BK216.out 1) | (go_at_call 45; (with_reducible refine (hawserlaw16_ordered.calls kj14 _ _ x217001_1 _ _ x225001_14 t233 _ ?side1 ?side2 ?side3 ?side4 A47.out).mono ?_); (case side1 => repeat (first | exact (Kd.R_reads' HO_217001.out).2.2 | (with_reducible refine Kd.C_alloc ?_ _) | (with_reducible refine Kd.C_drewN ?_ _) | (with_reducible refine Kd.C_drew ?_))); (case side2 => exact (Kd.R_reads' HO_217001.out).2.1); (case side3 => repeat (first | exact (Kd.R_reads' HO_225001.out).2.2 | (with_reducible refine Kd.C_alloc ?_ _) | (with_reducible refine Kd.C_drewN ?_ _) | (with_reducible refine Kd.C_drew ?_))); (case side4 => exact (Kd.R_reads' HO_225001.out).2.1); rintro e w' ⟨rfl, ⟨nd, rfl⟩⟩))
                          go_meet
                          case rel => exact ⟨_, (!t233), (by first | rfl | (simp; done) | (simp [*]; done)), H', ⟨by have := HK1.out; have := HJ14.out; first | omega | exact Nat.le_refl _⟩, ⟨by (with_reducible repeat (first | apply Kd.R_alloc | apply Kd.R_drewN | apply Kd.R_drew)); exact HO_217001.out⟩, ⟨by (with_reducible repeat (first | apply Kd.R_alloc | apply Kd.R_drewN | apply Kd.R_drew)); exact HO_225001.out⟩, ⟨by (with_reducible repeat (first | refine blk_drewN ?_ _ | refine blk_drew ?_ | refine blk_alloc ?_ _)); exact BK216.out⟩, ⟨by (with_reducible repeat (first | refine blk_drewN ?_ _ | refine blk_drew ?_ | refine blk_alloc ?_ _)); exact BK224.out⟩, ⟨by repeat (first | (with_reducible first | exact HB.out | apply below_alloc | apply pw_below_drewN | apply below_drew1 | refine below_set ?_ GE216.out | refine below_set ?_ GE224.out) | exact HB.out)⟩⟩
                        · rw [if_neg c46] at H
                          have c46b0 : (x225000_14 == (wrap64 (x217000_1 + 1))) = false := beq_eq_false_iff_ne.mpr c46
                          have c46b1 : (x225000_14 != (wrap64 (x217000_1 + 1))) = true := bne_iff_ne.mpr c46
                          (first | rw [c46b0] | (simp only [i64_w, i32_w]; rw [c46b0]) | rw [c46b1] | skip)
                          have H' := Aside0.mk H
                          clear H
                          have hnb58 := NB216_224.out
                          have hnc58 := NB224_216.out
                          have hcz59_0 : wc.cell? ⟨gb216, 0, none⟩ = some (.int .i64 x217000_1) := (blk_cell BK216.out 0).trans rfl
                          have hcz59_1 : wc.cell? ⟨gb216, 1, none⟩ = some (.slice Ao16 x217001_1.length co16) := (blk_cell BK216.out 1).trans rfl
                          have hfz59_0 := blk_frozen BK216.out 0
                          have hfz59_1 := blk_frozen BK216.out 1
                          have hcz60_0 : wc.cell? ⟨gb224, 0, none⟩ = some (.int .i64 x225000_14) := (blk_cell BK224.out 0).trans rfl
                          have hcz60_1 : wc.cell? ⟨gb224, 1, none⟩ = some (u225001) := (blk_cell BK224.out 1).trans rfl
                          have hfz60_0 := blk_frozen BK224.out 0
                          have hfz60_1 := blk_frozen BK224.out 1
                          obtain ⟨Ao61, co61, eo61⟩ := Kd.R_slice HO_225001.out
                          subst eo61
                          go_wp2_with (first | ((with_reducible refine gate_callee (f := 27) rfl ?_); refine goesL_ (some 50) rfl rfl Try.func27 (by kernel_rfl) rfl #[.agg #[.int .i64 x217000_1, .slice Ao16 x217001_1.length co16], .agg #[.int .i64 x225000_14, .slice Ao61 x225001_14.length co61]] rfl (by (try simp only [List.map_toArray, List.map_cons, List.map_nil]); first | done | rfl | (simp only [List.length_drop, List.length_take]; rfl)) ?_; (with_reducible refine (config_Follows.calls kj14 x217000_1 (fun k_ => some k_ = (.slice Ao16 x217001_1.length co16 : Value).ownBlock) _ _ x217001_1 x225000_14 (fun k_ => some k_ = (.slice Ao61 x225001_14.length co61 : Value).ownBlock) _ _ x225001_14 true _ ?side1 ?side2 A34.out).mono ?_); (case side1 => exact Kd.R_V (Kd.R_tight rfl (Kd.R_types (Kd.R_types (HO_217001.out) BK216.out (by decide)) BK224.out (by decide)))); (case side2 => exact Kd.R_V (Kd.R_tight rfl (Kd.R_types (Kd.R_types (HO_225001.out) BK216.out (by decide)) BK224.out (by decide)))); rintro e w62 ⟨rfl, hb⟩; refine ⟨_, rfl, ?_⟩; have n0_ := Aside0.mk (Kd.R_below (by (with_reducible repeat (first | apply Kd.R_alloc | apply Kd.R_drewN | apply Kd.R_drew)); exact HO_217001.out) hb); have n1_ := Aside0.mk (Kd.R_below (by (with_reducible repeat (first | apply Kd.R_alloc | apply Kd.R_drewN | apply Kd.R_drew)); exact HO_225001.out) hb); have n2_ := Aside0.mk (blk_below (g := gb216) (o := .cells #[.int .i64 x217000_1, .slice Ao16 x217001_1.length co16] 32 (0, 0)) (by (with_reducible repeat (first | refine blk_drewN ?_ _ | refine blk_drew ?_ | refine blk_alloc ?_ _)); exact BK216.out) hb); have n3_ := Aside0.mk (blk_below (g := gb224) (o := .cells #[.int .i64 x225000_14, .slice Ao61 x225001_14.length co61] 32 (0, 0)) (by (with_reducible repeat (first | refine blk_drewN ?_ _ | refine blk_drew ?_ | refine blk_alloc ?_ _)); exact BK224.out) hb); have n4_ := Aside0.mk (below_step (by repeat (first | (with_reducible first | exact HB.out | apply below_alloc | apply pw_below_drewN | apply below_drew1 | refine below_set ?_ GE216.out | refine below_set ?_ GE224.out) | exact HB.out)) hb); clear HO_217001; clear HO_225001; clear BK216; clear BK224; clear HB; have HO_217001 := n0_; have HO_225001 := n1_; have BK216 := n2_; have BK224 := n3_; have HB := n4_; clear n0_ n1_ n2_ n3_ n4_; (try clear hb); (try clear hb2); (try clear hk); (try clear hi); have hcz63_0 : w62.cell? ⟨gb224, 0, none⟩ = some (.int .i64 x225000_14) := (blk_cell BK224.out 0).trans rfl; have hcz63_1 : w62.cell? ⟨gb224, 1, none⟩ = some (.slice Ao61 x225001_14.length co61) := (blk_cell BK224.out 1).trans rfl; have hfz63_0 := blk_frozen BK224.out 0; have hfz63_1 := blk_frozen BK224.out 1; have hcz64_0 : w62.cell? ⟨gb216, 0, none⟩ = some (.int .i64 x217000_1) := (blk_cell BK216.out 0).trans rfl; have hcz64_1 : w62.cell? ⟨gb216, 1, none⟩ = some (.slice Ao16 x217001_1.length co16) := (blk_cell BK216.out 1).trans rfl; have hfz64_0 := blk_frozen BK216.out 0; have hfz64_1 := blk_frozen BK216.out 1) | (go_at_call 27; (with_reducible refine (config_Follows.calls kj14 x225000_14 (fun k_ => some k_ = (.slice Ao61 x225001_14.length co61 : Value).ownBlock) _ _ x225001_14 x217000_1 (fun k_ => some k_ = (.slice Ao16 x217001_1.length co16 : Value).ownBlock) _ _ x217001_1 false _ ?side1 ?side2 A36.out).mono ?_); (case side1 => exact Kd.R_V (Kd.R_tight rfl (Kd.R_types (Kd.R_types (HO_225001.out) BK216.out (by decide)) BK224.out (by decide)))); (case side2 => exact Kd.R_V (Kd.R_tight rfl (Kd.R_types (Kd.R_types (HO_217001.out) BK216.out (by decide)) BK224.out (by decide)))); rintro e w65 ⟨rfl, hb⟩; have n0_ := Aside0.mk (Kd.R_below (by (with_reducible repeat (first | apply Kd.R_alloc | apply Kd.R_drewN | apply Kd.R_drew)); exact HO_217001.out) hb); have n1_ := Aside0.mk (Kd.R_below (by (with_reducible repeat (first | apply Kd.R_alloc | apply Kd.R_drewN | apply Kd.R_drew)); exact HO_225001.out) hb); have n2_ := Aside0.mk (blk_below (g := gb216) (o := .cells #[.int .i64 x217000_1, .slice Ao16 x217001_1.length co16] 32 (0, 0)) (by (with_reducible repeat (first | refine blk_drewN ?_ _ | refine blk_drew ?_ | refine blk_alloc ?_ _)); exact BK216.out) hb); have n3_ := Aside0.mk (blk_below (g := gb224) (o := .cells #[.int .i64 x225000_14, .slice Ao61 x225001_14.length co61] 32 (0, 0)) (by (with_reducible repeat (first | refine blk_drewN ?_ _ | refine blk_drew ?_ | refine blk_alloc ?_ _)); exact BK224.out) hb); have n4_ := Aside0.mk (below_step (by repeat (first | (with_reducible first | exact HB.out | apply below_alloc | apply pw_below_drewN | apply below_drew1 | refine below_set ?_ GE216.out | refine below_set ?_ GE224.out) | exact HB.out)) hb); clear HO_217001; clear HO_225001; clear BK216; clear BK224; clear HB; have HO_217001 := n0_; have HO_225001 := n1_; have BK216 := n2_; have BK224 := n3_; have HB := n4_; clear n0_ n1_ n2_ n3_ n4_; (try clear hb); (try clear hb2); (try clear hk); (try clear hi); have hcz66_0 : w65.cell? ⟨gb224, 0, none⟩ = some (.int .i64 x225000_14) := (blk_cell BK224.out 0).trans rfl; have hcz66_1 : w65.cell? ⟨gb224, 1, none⟩ = some (.slice Ao61 x225001_14.length co61) := (blk_cell BK224.out 1).trans rfl; have hfz66_0 := blk_frozen BK224.out 0; have hfz66_1 := blk_frozen BK224.out 1; have hcz67_0 : w65.cell? ⟨gb216, 0, none⟩ = some (.int .i64 x217000_1) := (blk_cell BK216.out 0).trans rfl; have hcz67_1 : w65.cell? ⟨gb216, 1, none⟩ = some (.slice Ao16 x217001_1.length co16) := (blk_cell BK216.out 1).trans rfl; have hfz67_0 := blk_frozen BK216.out 0; have hfz67_1 := blk_frozen BK216.out 1))
                          go_meet
                          case rel => exact ⟨_, (true), (by first | rfl | (simp; done) | (simp [*]; done)), H', ⟨by have := HK1.out; have := HJ14.out; first | omega | exact Nat.le_refl _⟩, ⟨by (with_reducible repeat (first | apply Kd.R_alloc | apply Kd.R_drewN | apply Kd.R_drew)); exact HO_217001.out⟩, ⟨by (with_reducible repeat (first | apply Kd.R_alloc | apply Kd.R_drewN | apply Kd.R_drew)); exact HO_225001.out⟩, ⟨by (with_reducible repeat (first | refine blk_drewN ?_ _ | refine blk_drew ?_ | refine blk_alloc ?_ _)); exact BK216.out⟩, ⟨by (with_reducible repeat (first | refine blk_drewN ?_ _ | refine blk_drew ?_ | refine blk_alloc ?_ _)); exact BK224.out⟩, ⟨by repeat (first | (with_reducible first | exact HB.out | apply below_alloc | apply pw_below_drewN | apply below_drew1 | refine below_set ?_ GE216.out | refine below_set ?_ GE224.out) | exact HB.out)⟩⟩
                    · replace c35 := Bool.eq_false_iff.mpr c35
                      subst c35
                      have H1 : (hawserlaw16_ConfigChange.j2 kj14 l1 x7_1 true x217000_1 x217001_1 x225000_14 x225001_14) = some r := by rw [if_neg (show ¬ (false = true) by decide)] at H; exact H
                      clear H
                      have H := H1
                      clear H1
                      have H' := Aside0.mk H
                      clear H
                      have hnb68 := NB216_224.out
                      have hnc68 := NB224_216.out
                      have hcz69_0 : wc.cell? ⟨gb216, 0, none⟩ = some (.int .i64 x217000_1) := (blk_cell BK216.out 0).trans rfl
                      have hcz69_1 : wc.cell? ⟨gb216, 1, none⟩ = some (.slice Ao16 x217001_1.length co16) := (blk_cell BK216.out 1).trans rfl
                      have hfz69_0 := blk_frozen BK216.out 0
                      have hfz69_1 := blk_frozen BK216.out 1
                      have hcz70_0 : wc.cell? ⟨gb224, 0, none⟩ = some (.int .i64 x225000_14) := (blk_cell BK224.out 0).trans rfl
                      have hcz70_1 : wc.cell? ⟨gb224, 1, none⟩ = some (u225001) := (blk_cell BK224.out 1).trans rfl
                      have hfz70_0 := blk_frozen BK224.out 0
                      have hfz70_1 := blk_frozen BK224.out 1
                      obtain ⟨Ao71, co71, eo71⟩ := Kd.R_slice HO_225001.out
                      subst eo71
                      go_wp2_with (first | ((with_reducible refine gate_callee (f := 27) rfl ?_); refine goesL_ (some 50) rfl rfl Try.func27 (by kernel_rfl) rfl #[.agg #[.int .i64 x217000_1, .slice Ao16 x217001_1.length co16], .agg #[.int .i64 x225000_14, .slice Ao71 x225001_14.length co71]] rfl (by (try simp only [List.map_toArray, List.map_cons, List.map_nil]); first | done | rfl | (simp only [List.length_drop, List.length_take]; rfl)) ?_; (with_reducible refine (config_Follows.calls kj14 x217000_1 (fun k_ => some k_ = (.slice Ao16 x217001_1.length co16 : Value).ownBlock) _ _ x217001_1 x225000_14 (fun k_ => some k_ = (.slice Ao71 x225001_14.length co71 : Value).ownBlock) _ _ x225001_14 false _ ?side1 ?side2 A34.out).mono ?_); (case side1 => exact Kd.R_V (Kd.R_tight rfl (Kd.R_types (Kd.R_types (HO_217001.out) BK216.out (by decide)) BK224.out (by decide)))); (case side2 => exact Kd.R_V (Kd.R_tight rfl (Kd.R_types (Kd.R_types (HO_225001.out) BK216.out (by decide)) BK224.out (by decide)))); rintro e w72 ⟨rfl, hb⟩; refine ⟨_, rfl, ?_⟩; have n0_ := Aside0.mk (Kd.R_below (by (with_reducible repeat (first | apply Kd.R_alloc | apply Kd.R_drewN | apply Kd.R_drew)); exact HO_217001.out) hb); have n1_ := Aside0.mk (Kd.R_below (by (with_reducible repeat (first | apply Kd.R_alloc | apply Kd.R_drewN | apply Kd.R_drew)); exact HO_225001.out) hb); have n2_ := Aside0.mk (blk_below (g := gb216) (o := .cells #[.int .i64 x217000_1, .slice Ao16 x217001_1.length co16] 32 (0, 0)) (by (with_reducible repeat (first | refine blk_drewN ?_ _ | refine blk_drew ?_ | refine blk_alloc ?_ _)); exact BK216.out) hb); have n3_ := Aside0.mk (blk_below (g := gb224) (o := .cells #[.int .i64 x225000_14, .slice Ao71 x225001_14.length co71] 32 (0, 0)) (by (with_reducible repeat (first | refine blk_drewN ?_ _ | refine blk_drew ?_ | refine blk_alloc ?_ _)); exact BK224.out) hb); have n4_ := Aside0.mk (below_step (by repeat (first | (with_reducible first | exact HB.out | apply below_alloc | apply pw_below_drewN | apply below_drew1 | refine below_set ?_ GE216.out | refine below_set ?_ GE224.out) | exact HB.out)) hb); clear HO_217001; clear HO_225001; clear BK216; clear BK224; clear HB; have HO_217001 := n0_; have HO_225001 := n1_; have BK216 := n2_; have BK224 := n3_; have HB := n4_; clear n0_ n1_ n2_ n3_ n4_; (try clear hb); (try clear hb2); (try clear hk); (try clear hi)))
                      go_meet
                      case rel => exact ⟨_, (true), (by first | rfl | (simp; done) | (simp [*]; done)), H', ⟨by have := HK1.out; have := HJ14.out; first | omega | exact Nat.le_refl _⟩, ⟨by (with_reducible repeat (first | apply Kd.R_alloc | apply Kd.R_drewN | apply Kd.R_drew)); exact HO_217001.out⟩, ⟨by (with_reducible repeat (first | apply Kd.R_alloc | apply Kd.R_drewN | apply Kd.R_drew)); exact HO_225001.out⟩, ⟨by (with_reducible repeat (first | refine blk_drewN ?_ _ | refine blk_drew ?_ | refine blk_alloc ?_ _)); exact BK216.out⟩, ⟨by (with_reducible repeat (first | refine blk_drewN ?_ _ | refine blk_drew ?_ | refine blk_alloc ?_ _)); exact BK224.out⟩, ⟨by repeat (first | (with_reducible first | exact HB.out | apply below_alloc | apply pw_below_drewN | apply below_drew1 | refine below_set ?_ GE216.out | refine below_set ?_ GE224.out) | exact HB.out)⟩⟩
                  case rest =>
                    clear HC33
                    try clear c1
                    try clear c2
                    try clear p2
                    try clear q2
                    try clear hx2
                    try clear c3
                    try clear c4
                    try clear c5
                    try clear c5b0
                    try clear c5b1
                    try clear c6
                    try clear p6
                    try clear c12
                    try clear c12b0
                    try clear c13
                    try clear c13b0
                    try clear c20
                    try clear p21
                    try clear q21
                    try clear hx21
                    try clear p22
                    try clear q22
                    try clear hx22
                    try clear c24
                    try clear c24b0
                    try clear c24b1
                    try clear c27
                    try clear c32
                    try clear c32b0
                    try clear c32b1
                    try clear c35
                    try clear c37
                    try clear c38
                    try clear c39
                    try clear c40
                    try clear c46
                    try clear c46b0
                    try clear c46b1
                    try clear c48
                    try clear c58
                    try clear p64
                    try clear c68
                    try clear hcz10_0
                    try clear hcz10_1
                    try clear hcz39_0
                    try clear hcz39_1
                    try clear hcz40_0
                    try clear hcz40_1
                    try clear hcz43_0
                    try clear hcz43_1
                    try clear hcz44_0
                    try clear hcz44_1
                    try clear hcz49_0
                    try clear hcz49_1
                    try clear hcz50_0
                    try clear hcz50_1
                    try clear hcz53_0
                    try clear hcz53_1
                    try clear hcz54_0
                    try clear hcz54_1
                    try clear hcz56_0
                    try clear hcz56_1
                    try clear hcz57_0
                    try clear hcz57_1
                    try clear hcz59_0
                    try clear hcz59_1
                    try clear hcz60_0
                    try clear hcz60_1
                    try clear hcz63_0
                    try clear hcz63_1
                    try clear hcz64_0
                    try clear hcz64_1
                    try clear hcz66_0
                    try clear hcz66_1
                    try clear hcz67_0
                    try clear hcz67_1
                    try clear hcz69_0
                    try clear hcz69_1
                    try clear hcz70_0
                    try clear hcz70_1
                    try clear hfz10_0
                    try clear hfz10_1
                    try clear hfz39_0
                    try clear hfz39_1
                    try clear hfz40_0
                    try clear hfz40_1
                    try clear hfz43_0
                    try clear hfz43_1
                    try clear hfz44_0
                    try clear hfz44_1
                    try clear hfz49_0
                    try clear hfz49_1
                    try clear hfz50_0
                    try clear hfz50_1
                    try clear hfz53_0
                    try clear hfz53_1
                    try clear hfz54_0
                    try clear hfz54_1
                    try clear hfz56_0
                    try clear hfz56_1
                    try clear hfz57_0
                    try clear hfz57_1
                    try clear hfz59_0
                    try clear hfz59_1
                    try clear hfz60_0
                    try clear hfz60_1
                    try clear hfz63_0
                    try clear hfz63_1
                    try clear hfz64_0
                    try clear hfz64_1
                    try clear hfz66_0
                    try clear hfz66_1
                    try clear hfz67_0
                    try clear hfz67_1
                    try clear hfz69_0
                    try clear hfz69_1
                    try clear hfz70_0
                    try clear hfz70_1
                    try clear hx218_0
                    try clear hx225_0
                    try clear p2
                    try clear p21
                    try clear p218
                    try clear p22
                    try clear p225
                    try clear q2
                    try clear q21
                    try clear q218
                    try clear q22
                    try clear q225
                    obtain ⟨kq, x72_32, rfl, HA, HJ32, HO_217001, HO_225001, BK216, BK224, HB⟩ := hcut
                    cases kq with
                    | zero => exact absurd HA.out (by simp [hawserlaw16_ConfigChange.j2])
                    | succ kj32 =>
                      have H := HA.out
                      clear HA
                      simp only [hawserlaw16_ConfigChange.j2] at H
                      by_cases c73 : x72_32 = true
                      · subst c73
                        have H1 : (none) = some r := by rw [if_pos rfl] at H; exact H
                        clear H
                        have H := H1
                        clear H1
                        exact absurd H (by simp)
                      · replace c73 := Bool.eq_false_iff.mpr c73
                        subst c73
                        have H1 : (if (x225001_14.length : Int) > (x217001_1.length : Int) then (if 0 ≤ x7_1 then (if x7_1 < (l1.length : Int) then ((config_Without.f x225000_14 x225001_14 (rd l1 x7_1)).bind fun bt235 => (if bt235.2.2 = 0 then ((config_Alike.f kj32 x217000_1 bt235.2.1 x217000_1 x217001_1).bind fun t241 => (if t241 = true then (hawserlaw16_ConfigChange.l0 kj32 l1 (wrap64 (x7_1 + 1)) x225000_14 x225001_14) else (none))) else (none))) else (none)) else (none)) else (hawserlaw16_ConfigChange.l0 kj32 l1 (wrap64 (x7_1 + 1)) x225000_14 x225001_14)) = some r := by rw [if_neg (show ¬ (false = true) by decide)] at H; exact H
                        clear H
                        have H := H1
                        clear H1
                        by_cases c74 : (x225001_14.length : Int) > (x217001_1.length : Int)
                        · rw [if_pos c74] at H
                          have c74b0 : decide ((x217001_1.length : Int) < (x225001_14.length : Int)) = true := decide_eq_true c74
                          have c74b1 : decide (x217001_1.length < x225001_14.length) = true := decide_eq_true (Int.ofNat_lt.mp c74)
                          clear c74
                          by_cases c75 : 0 ≤ x7_1
                          · rw [if_pos c75] at H
                            have c75b0 : decide (0 ≤ x7_1) = true := decide_eq_true c75
                            clear c75
                            by_cases c76 : x7_1 < (l1.length : Int)
                            · rw [if_pos c76] at H
                              have c76b0 : decide (x7_1 < (l1.length : Int)) = true := decide_eq_true c76
                              clear c76
                              replace H := Option.bind_eq_some_iff.mp H
                              obtain ⟨⟨t235, t236, t239⟩, A770, H⟩ := H
                              replace H : (if t239 = 0 then ((config_Alike.f kj32 x217000_1 t236 x217000_1 x217001_1).bind fun t241 => (if t241 = true then (hawserlaw16_ConfigChange.l0 kj32 l1 (wrap64 (x7_1 + 1)) x225000_14 x225001_14) else (none))) else (none)) = some r := H
                              have A77 := Aside0.mk A770
                              clear A770
                              by_cases c78 : t239 = 0
                              · rw [if_pos c78] at H
                                have c78b0 : (t239 == 0) = true := beq_iff_eq.mpr c78
                                have c78b1 : (t239 != 0) = false := bne_eq_false_iff_eq.mpr c78
                                clear c78
                                replace H := Option.bind_eq_some_iff.mp H
                                obtain ⟨t241, A790, H⟩ := H
                                replace H : (if t241 = true then (hawserlaw16_ConfigChange.l0 kj32 l1 (wrap64 (x7_1 + 1)) x225000_14 x225001_14) else (none)) = some r := H
                                have A79 := Aside0.mk A790
                                clear A790
                                by_cases c80 : t241 = true
                                · subst c80
                                  have H1 : (hawserlaw16_ConfigChange.l0 kj32 l1 (wrap64 (x7_1 + 1)) x225000_14 x225001_14) = some r := by rw [if_pos rfl] at H; exact H
                                  clear H
                                  have H := H1
                                  clear H1
                                  have H' := Aside0.mk H
                                  clear H
                                  have hnb81 := NB224_216.out
                                  have hnc81 := NB216_224.out
                                  have hcz82_0 : wc.cell? ⟨gb224, 0, none⟩ = some (.int .i64 x225000_14) := (blk_cell BK224.out 0).trans rfl
                                  have hcz82_1 : wc.cell? ⟨gb224, 1, none⟩ = some (u225001) := (blk_cell BK224.out 1).trans rfl
                                  have hfz82_0 := blk_frozen BK224.out 0
                                  have hfz82_1 := blk_frozen BK224.out 1
                                  obtain ⟨Ao83, co83, eo83⟩ := Kd.R_slice HO_225001.out
                                  subst eo83
                                  have hcz84_0 : wc.cell? ⟨gb216, 0, none⟩ = some (.int .i64 x217000_1) := (blk_cell BK216.out 0).trans rfl
                                  have hcz84_1 : wc.cell? ⟨gb216, 1, none⟩ = some (.slice Ao16 x217001_1.length co16) := (blk_cell BK216.out 1).trans rfl
                                  have hfz84_0 := blk_frozen BK216.out 0
                                  have hfz84_1 := blk_frozen BK216.out 1
                                  try go_wp2
                                  have n0_ := Aside0.mk (Kd.R_drew HO_217001.out)
                                  have n1_ := Aside0.mk (Kd.R_drew HO_225001.out)
                                  have n2_ := Aside0.mk (blk_drew BK216.out)
                                  have n3_ := Aside0.mk (blk_drew BK224.out)
                                  have n4_ := Aside0.mk (below_drew1 HB.out)
                                  clear HO_217001
                                  clear HO_225001
                                  clear BK216
                                  clear BK224
                                  clear HB
                                  have HO_217001 := n0_
                                  have HO_225001 := n1_
                                  have BK216 := n2_
                                  have BK224 := n3_
                                  have HB := n4_
                                  clear n0_ n1_ n2_ n3_ n4_
                                  have p234 : 0 ≤ (x7_1 : Int) := of_decide_eq_true (by first | (with_reducible assumption) | assumption)
                                  have q234 : x7_1 < (l1.length : Int) := of_decide_eq_true (by first | (with_reducible assumption) | assumption)
                                  obtain ⟨ad234, e234, hx234_0⟩ := Kd.at_int HR1.out x7_1 p234 q234
                                  have hw234_0 := hx234_0
                                  obtain rfl : ad218 = ad234 := (by injection e234)
                                  replace hx234_0 := (HB.out.cell (World.block_lt_of_cell? w _ hx234_0)).trans hx234_0
                                  replace p234 := eq_true p234
                                  replace q234 := eq_true q234
                                  refine start_ (n := 12) (S := fun w' => w'.cell? ⟨gb224, 0, none⟩ = some (.int .i64 x225000_14) ∧ w'.cell? ⟨gb224, 1, none⟩ = some (.slice Ao83 x225001_14.length co83) ∧ w'.cell? (ad218.add (x7_1).toNat) = some (.int .i64 (rd l1 x7_1))) (ds := []) #[false, false, false, false, false, false, false, false, false, false, false, false] (by kernel_rfl) rfl rfl ⟨(blk_cell BK224.out 0).trans rfl, (blk_cell BK224.out 1).trans rfl, ((HB.out.cell (World.block_lt_of_cell? w _ hw234_0)).trans hw234_0)⟩ (fun hHeld => ?_); refine with_tabW hawserlaw16_ConfigChange.tab14 hawserlaw16_ConfigChange.bits14 (fun HT_ HW_ => ?_)
                                  generalize wc.drew = w85 at HO_217001 HO_225001 BK216 BK224 HB hx234_0 hHeld ⊢
                                  refine pure_ (i := 1) (N := some 82) (v := ?_) (a' := ?_) #[false, true, false, false, false, false, false, false, false, false, false, false] rfl rfl (any_of HT_.out (by kernel_rfl)) (fun _ _ _ h => h) (Or.inl ⟨by rfl, ?_⟩) ?_ ?_
                                  rotate_left
                                  · intro w'
                                    go_simp
                                    with_reducible rfl
                                  rotate_left
                                  · simp only [Act.put, List.setIfInBounds_toArray, List.set_cons_zero, List.set_cons_succ, i64_w, i32_w]
                                    rfl
                                  refine pure_ (i := 2) (N := some 83) (v := ?_) (a' := ?_) #[false, true, true, false, false, false, false, false, false, false, false, false] rfl rfl (any_of HT_.out (by kernel_rfl)) (fun _ _ _ h => h) (Or.inl ⟨by rfl, ?_⟩) ?_ ?_
                                  rotate_left
                                  · intro w'
                                    go_simp
                                    with_reducible rfl
                                  rotate_left
                                  · simp only [Act.put, List.setIfInBounds_toArray, List.set_cons_zero, List.set_cons_succ, i64_w, i32_w]
                                    rfl
                                  refine pure_ (i := 3) (N := some 84) (v := ?_) (a' := ?_) #[false, true, true, true, false, false, false, false, false, false, false, false] rfl rfl (any_of HT_.out (by kernel_rfl)) (fun _ _ _ h => h) (Or.inl ⟨by rfl, ?_⟩) ?_ ?_
                                  rotate_left
                                  · intro w'
                                    go_simp
                                    with_reducible rfl
                                  rotate_left
                                  · simp only [Act.put, List.setIfInBounds_toArray, List.set_cons_zero, List.set_cons_succ, i64_w, i32_w]
                                    rfl
                                  refine take_ (i := 0) (N := some 81) (v := ?_) (a' := ?_) #[true, true, true, true, false, false, false, false, false, false, false, false] rfl rfl (take_ofW HT_.out HW_.out (by kernel_rfl)) (fun _ _ _ h => h) (Or.inl ⟨by rfl, ?_⟩) hHeld ?_ ?_
                                  rotate_left
                                  · rintro w' ⟨s0, s1, s2⟩
                                    go_simp
                                    with_reducible rfl
                                  rotate_left
                                  · simp only [Act.put, List.setIfInBounds_toArray, List.set_cons_zero, List.set_cons_succ, i64_w, i32_w]
                                    rfl
                                  refine take_ (i := 4) (N := some 85) (v := ?_) (a' := ?_) #[true, true, true, true, true, false, false, false, false, false, false, false] rfl rfl (take_ofW HT_.out HW_.out (by kernel_rfl)) (fun _ _ _ h => h) (Or.inl ⟨by rfl, ?_⟩) hHeld ?_ ?_
                                  rotate_left
                                  · rintro w' ⟨s0, s1, s2⟩
                                    go_simp
                                    with_reducible rfl
                                  rotate_left
                                  · simp only [Act.put, List.setIfInBounds_toArray, List.set_cons_zero, List.set_cons_succ, i64_w, i32_w]
                                    rfl
                                  refine join_ (σ := Value × Nat) 2 #[true, true, true, true, true, true, true, true, true, true, false, false] (fun s_ => [(86, .tuple #[.agg #[.int .i64 t235, s_.1], .int .i64 t239]), (10, .pointer (some ⟨s_.2, 0, none⟩)), (80, .tuple #[.agg #[.int .i64 t235, s_.1], .int .i64 t239]), (87, .agg #[.int .i64 t235, s_.1]), (88, .int .i64 t239)]) (fun s_ w' => (w'.cell? ⟨gb224, 0, none⟩ = some (.int .i64 x225000_14) ∧ w'.cell? ⟨gb224, 1, none⟩ = some (.slice Ao83 x225001_14.length co83) ∧ w'.cell? (ad218.add (x7_1).toNat) = some (.int .i64 (rd l1 x7_1))) ∧ (Kd.R (Kd.int .i64) 3 w' w.heap.size (fun k_ => some k_ ≠ (.slice Ao16 x217001_1.length co16 : Value).ownBlock ∧ some k_ ≠ (.slice Ao83 x225001_14.length co83 : Value).ownBlock) s_.1 t236) ∧ (Kd.R (Kd.int .i64) 3 w' w.heap.size (fun k_ => some k_ ≠ (s_.1 : Value).ownBlock ∧ some k_ ≠ (.slice Ao83 x225001_14.length co83 : Value).ownBlock) (.slice Ao16 x217001_1.length co16) x217001_1) ∧ (Kd.R (Kd.int .i64) 3 w' w.heap.size (fun k_ => some k_ ≠ (s_.1 : Value).ownBlock ∧ some k_ ≠ (.slice Ao16 x217001_1.length co16 : Value).ownBlock) (.slice Ao83 x225001_14.length co83) x225001_14) ∧ (w'.heap[gb216]? = some (.cells #[.int .i64 x217000_1, .slice Ao16 x217001_1.length co16] 32 (0, 0))) ∧ (w'.heap[gb224]? = some (.cells #[.int .i64 x225000_14, .slice Ao83 x225001_14.length co83] 32 (0, 0))) ∧ (w'.heap[s_.2]? = some (.cells #[.int .i64 0, .slice none 0 0] 32 (0, 0))) ∧ (w.heap.size ≤ s_.2) ∧ (w.heap.size ≤ s_.2) ∧ (gb216 ≠ s_.2) ∧ (s_.2 ≠ gb216) ∧ (gb224 ≠ s_.2) ∧ (s_.2 ≠ gb224) ∧ (Below w.heap.size w w')) ?_ ?_
                                  rotate_left
                                  · intro hCont
                                    refine two_ (i := 5) (j := 9) (Ni := some 86) (Nj := some 10) #[true, true, true, true, true, true, false, false, false, false, false, false] #[true, true, true, true, true, false, false, false, false, true, false, false] rfl rfl rfl rfl (two_of HT_.out (by kernel_rfl)) (by decide) (by decide) (fun K hK => ?_) (fun K hK => ?_)
                                    · skip
                                      refine goes_ Try.func39 (by kernel_rfl) rfl #[.agg #[.int .i64 x225000_14, .slice Ao83 x225001_14.length co83], .int .i64 (rd l1 x7_1)] (by rfl) rfl rfl (by (try simp only [List.map_toArray, List.map_cons, List.map_nil]); first | done | rfl | (simp only [List.length_drop, List.length_take]; rfl)) ?_
                                      with_reducible refine (config_Without.calls x225000_14 (fun k_ => some k_ = (.slice Ao83 x225001_14.length co83 : Value).ownBlock) _ _ x225001_14 (rd l1 x7_1) t235 t236 t239 _ ?side1 A77.out).mono ?_
                                      (case side1 => exact Kd.R_V (Kd.R_tight rfl (Kd.R_types (Kd.R_types (HO_225001.out) BK216.out (by decide)) BK224.out (by decide))))
                                      rintro e w86 ⟨v237, rfl, ho0, hb⟩
                                      refine ⟨_, rfl, ?_⟩
                                      have n0_ := Aside0.mk (Kd.R_elder' (by (with_reducible repeat (first | apply Kd.R_alloc | apply Kd.R_drewN | apply Kd.R_drew)); exact HO_217001.out) (Kd.R_base ho0) hb)
                                      have n1_ := Aside0.mk (Kd.R_elder' (by (with_reducible repeat (first | apply Kd.R_alloc | apply Kd.R_drewN | apply Kd.R_drew)); exact HO_225001.out) (Kd.R_base ho0) hb)
                                      have n2_ := Aside0.mk (Kd.R_lower (Kd.R_new' (Kd.R_new' (Kd.R_mono (ok' := fun k_ => True) ho0 (fun _ hk_ => trivial)) (Kd.R_lt (by (with_reducible repeat (first | apply Kd.R_alloc | apply Kd.R_drewN | apply Kd.R_drew)); exact HO_217001.out))) (Kd.R_lt (by (with_reducible repeat (first | apply Kd.R_alloc | apply Kd.R_drewN | apply Kd.R_drew)); exact HO_225001.out))) (below_size (by repeat (first | (with_reducible first | exact HB.out | apply below_alloc | apply pw_below_drewN | apply below_drew1 | refine below_set ?_ GE216.out | refine below_set ?_ GE224.out) | exact HB.out))))
                                      have n3_ := Aside0.mk (blk_below (g := gb216) (o := .cells #[.int .i64 x217000_1, .slice Ao16 x217001_1.length co16] 32 (0, 0)) (by (with_reducible repeat (first | refine blk_drewN ?_ _ | refine blk_drew ?_ | refine blk_alloc ?_ _)); exact BK216.out) hb)
                                      have n4_ := Aside0.mk (blk_below (g := gb224) (o := .cells #[.int .i64 x225000_14, .slice Ao83 x225001_14.length co83] 32 (0, 0)) (by (with_reducible repeat (first | refine blk_drewN ?_ _ | refine blk_drew ?_ | refine blk_alloc ?_ _)); exact BK224.out) hb)
                                      have n5_ := Aside0.mk (below_step (by repeat (first | (with_reducible first | exact HB.out | apply below_alloc | apply pw_below_drewN | apply below_drew1 | refine below_set ?_ GE216.out | refine below_set ?_ GE224.out) | exact HB.out)) hb)
                                      clear HO_217001
                                      clear HO_225001
                                      clear BK216
                                      clear BK224
                                      clear HB
                                      have HO_217001 := n0_
                                      have HO_225001 := n1_
                                      have HO238 := n2_
                                      have BK216 := n3_
                                      have BK224 := n4_
                                      have HB := n5_
                                      clear n0_ n1_ n2_ n3_ n4_ n5_
                                      (try clear hb)
                                      (try clear hb2)
                                      (try clear hk)
                                      (try clear hi)
                                      (try clear ho0)
                                      refine hK.out _ _ ⟨(blk_cell BK224.out 0).trans rfl, (blk_cell BK224.out 1).trans rfl, ((HB.out.cell (World.block_lt_of_cell? w _ hw234_0)).trans hw234_0)⟩ (fun hHeld => ?_)
                                      clear hK K
                                      refine norm_ (a' := ?_) ?_ ?_
                                      rotate_left
                                      · show Act.put _ (some 86) _ = _
                                        simp only [Act.put, List.setIfInBounds_toArray, List.set_cons_zero, List.set_cons_succ, i64_w, i32_w]
                                        rfl
                                      refine pure_ (i := 6) (N := some 80) (v := ?_) (a' := ?_) #[true, true, true, true, true, true, true, false, false, false, false, false] rfl rfl (any_of HT_.out (by kernel_rfl)) (fun _ _ _ h => h) (Or.inl ⟨by rfl, ?_⟩) ?_ ?_
                                      rotate_left
                                      · intro w'
                                        go_simp
                                        with_reducible rfl
                                      rotate_left
                                      · simp only [Act.put, List.setIfInBounds_toArray, List.set_cons_zero, List.set_cons_succ, i64_w, i32_w]
                                        rfl
                                      refine pure_ (i := 7) (N := some 87) (v := ?_) (a' := ?_) #[true, true, true, true, true, true, true, true, false, false, false, false] rfl rfl (any_of HT_.out (by kernel_rfl)) (fun _ _ _ h => h) (Or.inl ⟨by rfl, ?_⟩) ?_ ?_
                                      rotate_left
                                      · intro w'
                                        go_simp
                                        with_reducible rfl
                                      rotate_left
                                      · simp only [Act.put, List.setIfInBounds_toArray, List.set_cons_zero, List.set_cons_succ, i64_w, i32_w]
                                        rfl
                                      refine pure_ (i := 8) (N := some 88) (v := ?_) (a' := ?_) #[true, true, true, true, true, true, true, true, true, false, false, false] rfl rfl (any_of HT_.out (by kernel_rfl)) (fun _ _ _ h => h) (Or.inl ⟨by rfl, ?_⟩) ?_ ?_
                                      rotate_left
                                      · intro w'
                                        go_simp
                                        with_reducible rfl
                                      rotate_left
                                      · simp only [Act.put, List.setIfInBounds_toArray, List.set_cons_zero, List.set_cons_succ, i64_w, i32_w]
                                        rfl
                                      refine one_ (i := 9) (N := some 10) #[true, true, true, true, true, true, true, true, true, true, false, false] rfl rfl (one_of HT_.out (by kernel_rfl)) (by decide) (fun K hK => ?_)
                                      refine box_step ?hg (N := 10) ?hd (cs := #[.int .i64 0, .slice none 0 0]) (t := 32) ?hr ?_; (case hd => rfl); (case hg => rfl); (case hr => first | (go_simp; done) | (go_simp; rfl))
                                      intro gb240 hg w87 hbox hb
                                      have n0_ := Aside0.mk (Kd.R_below (by (with_reducible repeat (first | apply Kd.R_alloc | apply Kd.R_drewN | apply Kd.R_drew)); exact HO_217001.out) hb)
                                      have n1_ := Aside0.mk (Kd.R_below (by (with_reducible repeat (first | apply Kd.R_alloc | apply Kd.R_drewN | apply Kd.R_drew)); exact HO_225001.out) hb)
                                      have n2_ := Aside0.mk (Kd.R_below (by (with_reducible repeat (first | apply Kd.R_alloc | apply Kd.R_drewN | apply Kd.R_drew)); exact HO238.out) hb)
                                      have n3_ := Aside0.mk (blk_below (g := gb216) (o := .cells #[.int .i64 x217000_1, .slice Ao16 x217001_1.length co16] 32 (0, 0)) (by (with_reducible repeat (first | refine blk_drewN ?_ _ | refine blk_drew ?_ | refine blk_alloc ?_ _)); exact BK216.out) hb)
                                      have n4_ := Aside0.mk (blk_below (g := gb224) (o := .cells #[.int .i64 x225000_14, .slice Ao83 x225001_14.length co83] 32 (0, 0)) (by (with_reducible repeat (first | refine blk_drewN ?_ _ | refine blk_drew ?_ | refine blk_alloc ?_ _)); exact BK224.out) hb)
                                      have n5_ := Aside0.mk (below_step (by repeat (first | (with_reducible first | exact HB.out | apply below_alloc | apply pw_below_drewN | apply below_drew1 | refine below_set ?_ GE216.out | refine below_set ?_ GE224.out) | exact HB.out)) hb)
                                      have n6_ := Aside0.mk (hbox)
                                      have n7_ := Aside0.mk ((by rw [hg]; exact (below_size (by repeat (first | (with_reducible first | exact HB.out | apply below_alloc | apply pw_below_drewN | apply below_drew1 | refine below_set ?_ GE216.out | refine below_set ?_ GE224.out) | exact HB.out))) : w.heap.size ≤ gb240))
                                      have n8_ := Aside0.mk ((by rw [hg]; exact (below_size (by repeat (first | (with_reducible first | exact HB.out | apply below_alloc | apply pw_below_drewN | apply below_drew1 | refine below_set ?_ GE216.out | refine below_set ?_ GE224.out) | exact HB.out))) : w.heap.size ≤ gb240))
                                      have n9_ := Aside0.mk ((by rw [hg]; exact Nat.ne_of_lt (blk_lt (g := gb216) (o := .cells #[.int .i64 x217000_1, .slice Ao16 x217001_1.length co16] 32 (0, 0)) (by (with_reducible repeat (first | refine blk_drewN ?_ _ | refine blk_drew ?_ | refine blk_alloc ?_ _)); exact BK216.out)) : gb216 ≠ gb240))
                                      have n10_ := Aside0.mk ((by rw [hg]; exact Nat.ne_of_gt (blk_lt (g := gb216) (o := .cells #[.int .i64 x217000_1, .slice Ao16 x217001_1.length co16] 32 (0, 0)) (by (with_reducible repeat (first | refine blk_drewN ?_ _ | refine blk_drew ?_ | refine blk_alloc ?_ _)); exact BK216.out)) : gb240 ≠ gb216))
                                      have n11_ := Aside0.mk ((by rw [hg]; exact Nat.ne_of_lt (blk_lt (g := gb224) (o := .cells #[.int .i64 x225000_14, .slice Ao83 x225001_14.length co83] 32 (0, 0)) (by (with_reducible repeat (first | refine blk_drewN ?_ _ | refine blk_drew ?_ | refine blk_alloc ?_ _)); exact BK224.out)) : gb224 ≠ gb240))
                                      have n12_ := Aside0.mk ((by rw [hg]; exact Nat.ne_of_gt (blk_lt (g := gb224) (o := .cells #[.int .i64 x225000_14, .slice Ao83 x225001_14.length co83] 32 (0, 0)) (by (with_reducible repeat (first | refine blk_drewN ?_ _ | refine blk_drew ?_ | refine blk_alloc ?_ _)); exact BK224.out)) : gb240 ≠ gb224))
                                      clear HO_217001
                                      clear HO_225001
                                      clear HO238
                                      clear BK216
                                      clear BK224
                                      clear HB
                                      have HO_217001 := n0_
                                      have HO_225001 := n1_
                                      have HO238 := n2_
                                      have BK216 := n3_
                                      have BK224 := n4_
                                      have HB := n5_
                                      have BK240 := n6_
                                      have GW240 := n7_
                                      have GE240 := n8_
                                      have NB216_240 := n9_
                                      have NB240_216 := n10_
                                      have NB224_240 := n11_
                                      have NB240_224 := n12_
                                      clear n0_ n1_ n2_ n3_ n4_ n5_ n6_ n7_ n8_ n9_ n10_ n11_ n12_
                                      clear hb hbox hg
                                      refine hK.out _ _ ⟨(blk_cell BK224.out 0).trans rfl, (blk_cell BK224.out 1).trans rfl, ((HB.out.cell (World.block_lt_of_cell? w _ hw234_0)).trans hw234_0)⟩ (fun hHeld => ?_)
                                      clear hK K
                                      refine norm_ (a' := ?_) ?_ ?_
                                      rotate_left
                                      · show Act.put _ (some 10) _ = _
                                        simp only [Act.put, List.setIfInBounds_toArray, List.set_cons_zero, List.set_cons_succ, i64_w, i32_w]
                                        rfl
                                      exact norm_ (by simp only [putAll, Act.put, List.setIfInBounds_toArray, List.set_cons_zero, List.set_cons_succ]) (hCont (v237, gb240) _ ⟨hHeld, (by (with_reducible repeat (first | apply Kd.R_alloc | apply Kd.R_drewN | apply Kd.R_drew)); exact Kd.R_mono HO238.out (fun _ hk => ⟨hk.1.2, hk.2⟩)), (by (with_reducible repeat (first | apply Kd.R_alloc | apply Kd.R_drewN | apply Kd.R_drew)); exact Kd.R_mono HO_217001.out (fun _ hk => ⟨hk.2, hk.1⟩)), (by (with_reducible repeat (first | apply Kd.R_alloc | apply Kd.R_drewN | apply Kd.R_drew)); exact Kd.R_mono HO_225001.out (fun _ hk => ⟨hk.2, hk.1⟩)), (by (with_reducible repeat (first | refine blk_drewN ?_ _ | refine blk_drew ?_ | refine blk_alloc ?_ _)); exact BK216.out), (by (with_reducible repeat (first | refine blk_drewN ?_ _ | refine blk_drew ?_ | refine blk_alloc ?_ _)); exact BK224.out), (by (with_reducible repeat (first | refine blk_drewN ?_ _ | refine blk_drew ?_ | refine blk_alloc ?_ _)); exact BK240.out), GW240.out, GE240.out, NB216_240.out, NB240_216.out, NB224_240.out, NB240_224.out, (by repeat (first | (with_reducible first | exact HB.out | apply below_alloc | apply pw_below_drewN | apply below_drew1 | refine below_set ?_ GE216.out | refine below_set ?_ GE224.out | refine below_set ?_ GE240.out) | exact HB.out))⟩)
                                    · skip
                                      refine box_step ?hg (N := 10) ?hd (cs := #[.int .i64 0, .slice none 0 0]) (t := 32) ?hr ?_; (case hd => rfl); (case hg => rfl); (case hr => first | (go_simp; done) | (go_simp; rfl))
                                      intro gb240 hg w86 hbox hb
                                      have n0_ := Aside0.mk (Kd.R_below (by (with_reducible repeat (first | apply Kd.R_alloc | apply Kd.R_drewN | apply Kd.R_drew)); exact HO_217001.out) hb)
                                      have n1_ := Aside0.mk (Kd.R_below (by (with_reducible repeat (first | apply Kd.R_alloc | apply Kd.R_drewN | apply Kd.R_drew)); exact HO_225001.out) hb)
                                      have n2_ := Aside0.mk (blk_below (g := gb216) (o := .cells #[.int .i64 x217000_1, .slice Ao16 x217001_1.length co16] 32 (0, 0)) (by (with_reducible repeat (first | refine blk_drewN ?_ _ | refine blk_drew ?_ | refine blk_alloc ?_ _)); exact BK216.out) hb)
                                      have n3_ := Aside0.mk (blk_below (g := gb224) (o := .cells #[.int .i64 x225000_14, .slice Ao83 x225001_14.length co83] 32 (0, 0)) (by (with_reducible repeat (first | refine blk_drewN ?_ _ | refine blk_drew ?_ | refine blk_alloc ?_ _)); exact BK224.out) hb)
                                      have n4_ := Aside0.mk (below_step (by repeat (first | (with_reducible first | exact HB.out | apply below_alloc | apply pw_below_drewN | apply below_drew1 | refine below_set ?_ GE216.out | refine below_set ?_ GE224.out) | exact HB.out)) hb)
                                      have n5_ := Aside0.mk (hbox)
                                      have n6_ := Aside0.mk ((by rw [hg]; exact (below_size (by repeat (first | (with_reducible first | exact HB.out | apply below_alloc | apply pw_below_drewN | apply below_drew1 | refine below_set ?_ GE216.out | refine below_set ?_ GE224.out) | exact HB.out))) : w.heap.size ≤ gb240))
                                      have n7_ := Aside0.mk ((by rw [hg]; exact (below_size (by repeat (first | (with_reducible first | exact HB.out | apply below_alloc | apply pw_below_drewN | apply below_drew1 | refine below_set ?_ GE216.out | refine below_set ?_ GE224.out) | exact HB.out))) : w.heap.size ≤ gb240))
                                      have n8_ := Aside0.mk ((by rw [hg]; exact Nat.ne_of_lt (blk_lt (g := gb216) (o := .cells #[.int .i64 x217000_1, .slice Ao16 x217001_1.length co16] 32 (0, 0)) (by (with_reducible repeat (first | refine blk_drewN ?_ _ | refine blk_drew ?_ | refine blk_alloc ?_ _)); exact BK216.out)) : gb216 ≠ gb240))
                                      have n9_ := Aside0.mk ((by rw [hg]; exact Nat.ne_of_gt (blk_lt (g := gb216) (o := .cells #[.int .i64 x217000_1, .slice Ao16 x217001_1.length co16] 32 (0, 0)) (by (with_reducible repeat (first | refine blk_drewN ?_ _ | refine blk_drew ?_ | refine blk_alloc ?_ _)); exact BK216.out)) : gb240 ≠ gb216))
                                      have n10_ := Aside0.mk ((by rw [hg]; exact Nat.ne_of_lt (blk_lt (g := gb224) (o := .cells #[.int .i64 x225000_14, .slice Ao83 x225001_14.length co83] 32 (0, 0)) (by (with_reducible repeat (first | refine blk_drewN ?_ _ | refine blk_drew ?_ | refine blk_alloc ?_ _)); exact BK224.out)) : gb224 ≠ gb240))
                                      have n11_ := Aside0.mk ((by rw [hg]; exact Nat.ne_of_gt (blk_lt (g := gb224) (o := .cells #[.int .i64 x225000_14, .slice Ao83 x225001_14.length co83] 32 (0, 0)) (by (with_reducible repeat (first | refine blk_drewN ?_ _ | refine blk_drew ?_ | refine blk_alloc ?_ _)); exact BK224.out)) : gb240 ≠ gb224))
                                      clear HO_217001
                                      clear HO_225001
                                      clear BK216
                                      clear BK224
                                      clear HB
                                      have HO_217001 := n0_
                                      have HO_225001 := n1_
                                      have BK216 := n2_
                                      have BK224 := n3_
                                      have HB := n4_
                                      have BK240 := n5_
                                      have GW240 := n6_
                                      have GE240 := n7_
                                      have NB216_240 := n8_
                                      have NB240_216 := n9_
                                      have NB224_240 := n10_
                                      have NB240_224 := n11_
                                      clear n0_ n1_ n2_ n3_ n4_ n5_ n6_ n7_ n8_ n9_ n10_ n11_
                                      clear hb hbox hg
                                      refine hK.out _ _ ⟨(blk_cell BK224.out 0).trans rfl, (blk_cell BK224.out 1).trans rfl, ((HB.out.cell (World.block_lt_of_cell? w _ hw234_0)).trans hw234_0)⟩ (fun hHeld => ?_)
                                      clear hK K
                                      refine norm_ (a' := ?_) ?_ ?_
                                      rotate_left
                                      · show Act.put _ (some 10) _ = _
                                        simp only [Act.put, List.setIfInBounds_toArray, List.set_cons_zero, List.set_cons_succ, i64_w, i32_w]
                                        rfl
                                      refine one_ (i := 5) (N := some 86) #[true, true, true, true, true, true, false, false, false, true, false, false] rfl rfl (one_of HT_.out (by kernel_rfl)) (by decide) (fun K hK => ?_)
                                      refine goes_ Try.func39 (by kernel_rfl) rfl #[.agg #[.int .i64 x225000_14, .slice Ao83 x225001_14.length co83], .int .i64 (rd l1 x7_1)] (by rfl) rfl rfl (by (try simp only [List.map_toArray, List.map_cons, List.map_nil]); first | done | rfl | (simp only [List.length_drop, List.length_take]; rfl)) ?_
                                      with_reducible refine (config_Without.calls x225000_14 (fun k_ => some k_ = (.slice Ao83 x225001_14.length co83 : Value).ownBlock) _ _ x225001_14 (rd l1 x7_1) t235 t236 t239 _ ?side1 A77.out).mono ?_
                                      (case side1 => exact Kd.R_V (Kd.R_tight rfl (Kd.R_types (Kd.R_types (Kd.R_types (HO_225001.out) BK216.out (by decide)) BK224.out (by decide)) BK240.out (by decide))))
                                      rintro e w87 ⟨v237, rfl, ho0, hb⟩
                                      refine ⟨_, rfl, ?_⟩
                                      have n0_ := Aside0.mk (Kd.R_elder' (by (with_reducible repeat (first | apply Kd.R_alloc | apply Kd.R_drewN | apply Kd.R_drew)); exact HO_217001.out) (Kd.R_base ho0) hb)
                                      have n1_ := Aside0.mk (Kd.R_elder' (by (with_reducible repeat (first | apply Kd.R_alloc | apply Kd.R_drewN | apply Kd.R_drew)); exact HO_225001.out) (Kd.R_base ho0) hb)
                                      have n2_ := Aside0.mk (Kd.R_lower (Kd.R_new' (Kd.R_new' (Kd.R_mono (ok' := fun k_ => True) ho0 (fun _ hk_ => trivial)) (Kd.R_lt (by (with_reducible repeat (first | apply Kd.R_alloc | apply Kd.R_drewN | apply Kd.R_drew)); exact HO_217001.out))) (Kd.R_lt (by (with_reducible repeat (first | apply Kd.R_alloc | apply Kd.R_drewN | apply Kd.R_drew)); exact HO_225001.out))) (below_size (by repeat (first | (with_reducible first | exact HB.out | apply below_alloc | apply pw_below_drewN | apply below_drew1 | refine below_set ?_ GE216.out | refine below_set ?_ GE224.out | refine below_set ?_ GE240.out) | exact HB.out))))
                                      have n3_ := Aside0.mk (blk_below (g := gb216) (o := .cells #[.int .i64 x217000_1, .slice Ao16 x217001_1.length co16] 32 (0, 0)) (by (with_reducible repeat (first | refine blk_drewN ?_ _ | refine blk_drew ?_ | refine blk_alloc ?_ _)); exact BK216.out) hb)
                                      have n4_ := Aside0.mk (blk_below (g := gb224) (o := .cells #[.int .i64 x225000_14, .slice Ao83 x225001_14.length co83] 32 (0, 0)) (by (with_reducible repeat (first | refine blk_drewN ?_ _ | refine blk_drew ?_ | refine blk_alloc ?_ _)); exact BK224.out) hb)
                                      have n5_ := Aside0.mk (blk_below (g := gb240) (o := .cells #[.int .i64 0, .slice none 0 0] 32 (0, 0)) (by (with_reducible repeat (first | refine blk_drewN ?_ _ | refine blk_drew ?_ | refine blk_alloc ?_ _)); exact BK240.out) hb)
                                      have n6_ := Aside0.mk (below_step (by repeat (first | (with_reducible first | exact HB.out | apply below_alloc | apply pw_below_drewN | apply below_drew1 | refine below_set ?_ GE216.out | refine below_set ?_ GE224.out | refine below_set ?_ GE240.out) | exact HB.out)) hb)
                                      clear HO_217001
                                      clear HO_225001
                                      clear BK216
                                      clear BK224
                                      clear BK240
                                      clear HB
                                      have HO_217001 := n0_
                                      have HO_225001 := n1_
                                      have HO238 := n2_
                                      have BK216 := n3_
                                      have BK224 := n4_
                                      have BK240 := n5_
                                      have HB := n6_
                                      clear n0_ n1_ n2_ n3_ n4_ n5_ n6_
                                      (try clear hb)
                                      (try clear hb2)
                                      (try clear hk)
                                      (try clear hi)
                                      (try clear ho0)
                                      refine hK.out _ _ ⟨(blk_cell BK224.out 0).trans rfl, (blk_cell BK224.out 1).trans rfl, ((HB.out.cell (World.block_lt_of_cell? w _ hw234_0)).trans hw234_0)⟩ (fun hHeld => ?_)
                                      clear hK K
                                      refine norm_ (a' := ?_) ?_ ?_
                                      rotate_left
                                      · show Act.put _ (some 86) _ = _
                                        simp only [Act.put, List.setIfInBounds_toArray, List.set_cons_zero, List.set_cons_succ, i64_w, i32_w]
                                        rfl
                                      refine pure_ (i := 6) (N := some 80) (v := ?_) (a' := ?_) #[true, true, true, true, true, true, true, false, false, true, false, false] rfl rfl (any_of HT_.out (by kernel_rfl)) (fun _ _ _ h => h) (Or.inl ⟨by rfl, ?_⟩) ?_ ?_
                                      rotate_left
                                      · intro w'
                                        go_simp
                                        with_reducible rfl
                                      rotate_left
                                      · simp only [Act.put, List.setIfInBounds_toArray, List.set_cons_zero, List.set_cons_succ, i64_w, i32_w]
                                        rfl
                                      refine pure_ (i := 7) (N := some 87) (v := ?_) (a' := ?_) #[true, true, true, true, true, true, true, true, false, true, false, false] rfl rfl (any_of HT_.out (by kernel_rfl)) (fun _ _ _ h => h) (Or.inl ⟨by rfl, ?_⟩) ?_ ?_
                                      rotate_left
                                      · intro w'
                                        go_simp
                                        with_reducible rfl
                                      rotate_left
                                      · simp only [Act.put, List.setIfInBounds_toArray, List.set_cons_zero, List.set_cons_succ, i64_w, i32_w]
                                        rfl
                                      refine pure_ (i := 8) (N := some 88) (v := ?_) (a' := ?_) #[true, true, true, true, true, true, true, true, true, true, false, false] rfl rfl (any_of HT_.out (by kernel_rfl)) (fun _ _ _ h => h) (Or.inl ⟨by rfl, ?_⟩) ?_ ?_
                                      rotate_left
                                      · intro w'
                                        go_simp
                                        with_reducible rfl
                                      rotate_left
                                      · simp only [Act.put, List.setIfInBounds_toArray, List.set_cons_zero, List.set_cons_succ, i64_w, i32_w]
                                        rfl
                                      exact norm_ (by simp only [putAll, Act.put, List.setIfInBounds_toArray, List.set_cons_zero, List.set_cons_succ]) (hCont (v237, gb240) _ ⟨hHeld, (by (with_reducible repeat (first | apply Kd.R_alloc | apply Kd.R_drewN | apply Kd.R_drew)); exact Kd.R_mono HO238.out (fun _ hk => ⟨hk.1.2, hk.2⟩)), (by (with_reducible repeat (first | apply Kd.R_alloc | apply Kd.R_drewN | apply Kd.R_drew)); exact Kd.R_mono HO_217001.out (fun _ hk => ⟨hk.2, hk.1⟩)), (by (with_reducible repeat (first | apply Kd.R_alloc | apply Kd.R_drewN | apply Kd.R_drew)); exact Kd.R_mono HO_225001.out (fun _ hk => ⟨hk.2, hk.1⟩)), (by (with_reducible repeat (first | refine blk_drewN ?_ _ | refine blk_drew ?_ | refine blk_alloc ?_ _)); exact BK216.out), (by (with_reducible repeat (first | refine blk_drewN ?_ _ | refine blk_drew ?_ | refine blk_alloc ?_ _)); exact BK224.out), (by (with_reducible repeat (first | refine blk_drewN ?_ _ | refine blk_drew ?_ | refine blk_alloc ?_ _)); exact BK240.out), GW240.out, GE240.out, NB216_240.out, NB240_216.out, NB224_240.out, NB240_224.out, (by repeat (first | (with_reducible first | exact HB.out | apply below_alloc | apply pw_below_drewN | apply below_drew1 | refine below_set ?_ GE216.out | refine below_set ?_ GE224.out | refine below_set ?_ GE240.out) | exact HB.out))⟩)
                                  rintro ⟨v237, gb240⟩ w88 ⟨hS_, h0_, h1_, h2_, h3_, h4_, h5_, h6_, h7_, h8_, h9_, h10_, h11_, h12_⟩
                                  have n0_ : Aside0 (Kd.R (Kd.int .i64) 3 w88 w.heap.size (fun k_ => some k_ ≠ (.slice Ao16 x217001_1.length co16 : Value).ownBlock ∧ some k_ ≠ (.slice Ao83 x225001_14.length co83 : Value).ownBlock) v237 t236) := ⟨h0_⟩
                                  have n1_ : Aside0 (Kd.R (Kd.int .i64) 3 w88 w.heap.size (fun k_ => some k_ ≠ (v237 : Value).ownBlock ∧ some k_ ≠ (.slice Ao83 x225001_14.length co83 : Value).ownBlock) (.slice Ao16 x217001_1.length co16) x217001_1) := ⟨h1_⟩
                                  have n2_ : Aside0 (Kd.R (Kd.int .i64) 3 w88 w.heap.size (fun k_ => some k_ ≠ (v237 : Value).ownBlock ∧ some k_ ≠ (.slice Ao16 x217001_1.length co16 : Value).ownBlock) (.slice Ao83 x225001_14.length co83) x225001_14) := ⟨h2_⟩
                                  have n3_ : Aside0 (w88.heap[gb216]? = some (.cells #[.int .i64 x217000_1, .slice Ao16 x217001_1.length co16] 32 (0, 0))) := ⟨h3_⟩
                                  have n4_ : Aside0 (w88.heap[gb224]? = some (.cells #[.int .i64 x225000_14, .slice Ao83 x225001_14.length co83] 32 (0, 0))) := ⟨h4_⟩
                                  have n5_ : Aside0 (w88.heap[gb240]? = some (.cells #[.int .i64 0, .slice none 0 0] 32 (0, 0))) := ⟨h5_⟩
                                  have n6_ : Aside0 (w.heap.size ≤ gb240) := ⟨h6_⟩
                                  have n7_ : Aside0 (w.heap.size ≤ gb240) := ⟨h7_⟩
                                  have n8_ : Aside0 (gb216 ≠ gb240) := ⟨h8_⟩
                                  have n9_ : Aside0 (gb240 ≠ gb216) := ⟨h9_⟩
                                  have n10_ : Aside0 (gb224 ≠ gb240) := ⟨h10_⟩
                                  have n11_ : Aside0 (gb240 ≠ gb224) := ⟨h11_⟩
                                  have n12_ : Aside0 (Below w.heap.size w w88) := ⟨h12_⟩
                                  clear HO_217001
                                  clear HO_225001
                                  clear BK216
                                  clear BK224
                                  clear HB
                                  clear h0_ h1_ h2_ h3_ h4_ h5_ h6_ h7_ h8_ h9_ h10_ h11_ h12_
                                  have HO238 := n0_
                                  have HO_217001 := n1_
                                  have HO_225001 := n2_
                                  have BK216 := n3_
                                  have BK224 := n4_
                                  have BK240 := n5_
                                  have GW240 := n6_
                                  have GE240 := n7_
                                  have NB216_240 := n8_
                                  have NB240_216 := n9_
                                  have NB224_240 := n10_
                                  have NB240_224 := n11_
                                  have HB := n12_
                                  clear n0_ n1_ n2_ n3_ n4_ n5_ n6_ n7_ n8_ n9_ n10_ n11_ n12_
                                  have hHeld : w88.cell? ⟨gb224, 0, none⟩ = some (.int .i64 x225000_14) ∧ w88.cell? ⟨gb224, 1, none⟩ = some (.slice Ao83 x225001_14.length co83) ∧ w88.cell? (ad218.add (x7_1).toNat) = some (.int .i64 (rd l1 x7_1)) := hS_
                                  obtain ⟨Ao90, co90, eo90⟩ := Kd.R_slice HO238.out
                                  (first | subst eo90 | (injection eo90 with f1_ f2_ f3_; have f4_ := f1_.symm; have f5_ := f3_.symm; clear f1_ f2_ f3_; subst f4_; subst f5_))
                                  refine norm_ (a' := ?_) ?_ ?_
                                  rotate_left
                                  · simp only [putAll, Act.put, List.setIfInBounds_toArray, List.set_cons_zero, List.set_cons_succ]
                                    rfl
                                  refine one_ (i := 10) (N := none) #[true, true, true, true, true, true, true, true, true, true, true, false] rfl rfl (one_of HT_.out (by kernel_rfl)) (by decide) (fun K hK => ?_)
                                  have hs89 : w88.cell? ⟨gb240, 0, none⟩ = some (.int .i64 0) := (blk_cell BK240.out 0).trans rfl
                                  have hfs89 := blk_frozen BK240.out 0
                                  have hns89_0 := NB216_240.out
                                  have hns89_1 := NB224_240.out
                                  have hms89_0 := NB240_216.out
                                  have hms89_1 := NB240_224.out
                                  have hs91 : w88.cell? ⟨gb240, 1, none⟩ = some (.slice none 0 0) := (blk_cell BK240.out 1).trans rfl
                                  have hfs91 := blk_frozen BK240.out 1
                                  have hns91_0 := NB216_240.out
                                  have hns91_1 := NB224_240.out
                                  have hms91_0 := NB240_216.out
                                  have hms91_1 := NB240_224.out
                                  refine skip_ (w1 := ?_) (by rfl) rfl ?_ ?_
                                  rotate_left
                                  · go_simp
                                    rfl
                                  refine hK.out _ _ ⟨((cell_far (p := ⟨gb240, _, none⟩) NB224_240.out _).trans (((cell_far (p := ⟨gb240, _, none⟩) NB224_240.out _).trans (hHeld.1)))), ((cell_far (p := ⟨gb240, _, none⟩) NB224_240.out _).trans (((cell_far (p := ⟨gb240, _, none⟩) NB224_240.out _).trans (hHeld.2.1)))), ((cell_far (p := ⟨gb240, _, none⟩) (by first | exact Nat.ne_of_lt (Nat.lt_of_lt_of_le (by have := World.block_lt_of_cell? _ _ hw234_0; first | rwa [add_block] at this | exact this) GW240.out) | (rw [add_block]; exact Nat.ne_of_lt (Nat.lt_of_lt_of_le (by have := World.block_lt_of_cell? _ _ hw234_0; first | rwa [add_block] at this | exact this) GW240.out)) | (show (Addr.add _ _).block ≠ _; rw [add_block]; exact Nat.ne_of_lt (Nat.lt_of_lt_of_le (by have := World.block_lt_of_cell? _ _ hw234_0; first | rwa [add_block] at this | exact this) GW240.out)) | (dsimp only; exact Nat.ne_of_lt (Nat.lt_of_lt_of_le (by have := World.block_lt_of_cell? _ _ hw234_0; first | rwa [add_block] at this | exact this) GW240.out))) _).trans (((cell_far (p := ⟨gb240, _, none⟩) (by first | exact Nat.ne_of_lt (Nat.lt_of_lt_of_le (by have := World.block_lt_of_cell? _ _ hw234_0; first | rwa [add_block] at this | exact this) GW240.out) | (rw [add_block]; exact Nat.ne_of_lt (Nat.lt_of_lt_of_le (by have := World.block_lt_of_cell? _ _ hw234_0; first | rwa [add_block] at this | exact this) GW240.out)) | (show (Addr.add _ _).block ≠ _; rw [add_block]; exact Nat.ne_of_lt (Nat.lt_of_lt_of_le (by have := World.block_lt_of_cell? _ _ hw234_0; first | rwa [add_block] at this | exact this) GW240.out)) | (dsimp only; exact Nat.ne_of_lt (Nat.lt_of_lt_of_le (by have := World.block_lt_of_cell? _ _ hw234_0; first | rwa [add_block] at this | exact this) GW240.out))) _).trans (hHeld.2.2))))⟩ (fun hHeld => ?_)
                                  clear hK K
                                  refine pure_ (i := 11) (N := some 11) (v := ?_) (a' := ?_) #[true, true, true, true, true, true, true, true, true, true, true, true] rfl rfl (any_of HT_.out (by kernel_rfl)) (fun _ _ _ h => h) (Or.inl ⟨by rfl, ?_⟩) ?_ ?_
                                  rotate_left
                                  · intro w'
                                    go_simp
                                    with_reducible rfl
                                  rotate_left
                                  · simp only [Act.put, List.setIfInBounds_toArray, List.set_cons_zero, List.set_cons_succ, i64_w, i32_w]
                                    rfl
                                  refine done_ (done_of HT_.out (by kernel_rfl)) ?_
                                  have hnb92 := NB216_240.out
                                  have hnc92 := NB240_216.out
                                  have hcz93_0 : w88.cell? ⟨gb216, 0, none⟩ = some (.int .i64 x217000_1) := (blk_cell BK216.out 0).trans rfl
                                  have hcz93_1 : w88.cell? ⟨gb216, 1, none⟩ = some (.slice Ao16 x217001_1.length co16) := (blk_cell BK216.out 1).trans rfl
                                  have hfz93_0 := blk_frozen BK216.out 0
                                  have hfz93_1 := blk_frozen BK216.out 1
                                  have hnb94 := NB240_224.out
                                  have hnc94 := NB224_240.out
                                  have hcz95_0 : w88.cell? ⟨gb240, 0, none⟩ = some (.int .i64 0) := (blk_cell BK240.out 0).trans rfl
                                  have hcz95_1 : w88.cell? ⟨gb240, 1, none⟩ = some (.slice none 0 0) := (blk_cell BK240.out 1).trans rfl
                                  have hfz95_0 := blk_frozen BK240.out 0
                                  have hfz95_1 := blk_frozen BK240.out 1
                                  try go_wp2_with (first | (go_at_call 28; (with_reducible refine (config_Alike.calls kj32 x217000_1 _ _ t236 x217000_1 _ _ x217001_1 true _ ?side1 ?side2 ?side3 ?side4 A79.out).mono ?_); (case side1 => refine (Kd.R_reads' (e := 3) (base := w.heap.size) (ok := fun k_ => (some k_ ≠ (.slice Ao16 x217001_1.length co16 : Value).ownBlock ∧ some k_ ≠ (.slice Ao83 x225001_14.length co83 : Value).ownBlock)) (n := t236.length) (c := co90) ?_).2.2; exact (by (with_reducible repeat (first | apply Kd.R_alloc | apply Kd.R_drewN | apply Kd.R_drew)); exact (Kd.R_mono (Kd.R_far (p := ⟨gb240, 1, none⟩) (Kd.R_far (p := ⟨gb240, 0, none⟩) (Kd.R_types HO238.out BK240.out (by decide)) (fun _ hk => hk.2) (.int .i64 t235)) (fun _ hk => hk.2) (.slice Ao90 t236.length co90)) (fun _ h_ => h_.1)))); (case side2 => exact (Kd.R_reads' HO238.out).2.1); (case side3 => refine (Kd.R_reads' (e := 3) (base := w.heap.size) (ok := fun k_ => (some k_ ≠ (.slice Ao90 t236.length co90 : Value).ownBlock ∧ some k_ ≠ (.slice Ao83 x225001_14.length co83 : Value).ownBlock)) (n := x217001_1.length) (c := co16) ?_).2.2; exact (by (with_reducible repeat (first | apply Kd.R_alloc | apply Kd.R_drewN | apply Kd.R_drew)); exact (Kd.R_mono (Kd.R_far (p := ⟨gb240, 1, none⟩) (Kd.R_far (p := ⟨gb240, 0, none⟩) (Kd.R_types HO_217001.out BK240.out (by decide)) (fun _ hk => hk.2) (.int .i64 t235)) (fun _ hk => hk.2) (.slice Ao90 t236.length co90)) (fun _ h_ => h_.1)))); (case side4 => exact (Kd.R_reads' HO_217001.out).2.1); rintro e w96 ⟨rfl, hb⟩; have n0_ := Aside0.mk (Kd.R_below (by (with_reducible repeat (first | apply Kd.R_alloc | apply Kd.R_drewN | apply Kd.R_drew)); exact (Kd.R_mono (Kd.R_far (p := ⟨gb240, 1, none⟩) (Kd.R_far (p := ⟨gb240, 0, none⟩) (Kd.R_types HO_217001.out BK240.out (by decide)) (fun _ hk => hk.2) (.int .i64 t235)) (fun _ hk => hk.2) (.slice Ao90 t236.length co90)) (fun _ h_ => h_.1))) hb); have n1_ := Aside0.mk (Kd.R_below (by (with_reducible repeat (first | apply Kd.R_alloc | apply Kd.R_drewN | apply Kd.R_drew)); exact (Kd.R_mono (Kd.R_far (p := ⟨gb240, 1, none⟩) (Kd.R_far (p := ⟨gb240, 0, none⟩) (Kd.R_types HO_225001.out BK240.out (by decide)) (fun _ hk => hk.2) (.int .i64 t235)) (fun _ hk => hk.2) (.slice Ao90 t236.length co90)) (fun _ h_ => h_.1))) hb); have n2_ := Aside0.mk (Kd.R_below (by (with_reducible repeat (first | apply Kd.R_alloc | apply Kd.R_drewN | apply Kd.R_drew)); exact (Kd.R_mono (Kd.R_far (p := ⟨gb240, 1, none⟩) (Kd.R_far (p := ⟨gb240, 0, none⟩) (Kd.R_types HO238.out BK240.out (by decide)) (fun _ hk => hk.2) (.int .i64 t235)) (fun _ hk => hk.2) (.slice Ao90 t236.length co90)) (fun _ h_ => h_.1))) hb); have n3_ := Aside0.mk (blk_below (g := gb216) (o := .cells #[.int .i64 x217000_1, .slice Ao16 x217001_1.length co16] 32 (0, 0)) (by (with_reducible repeat (first | refine blk_drewN ?_ _ | refine blk_drew ?_ | refine blk_alloc ?_ _)); refine blk_far ?_ NB216_240.out _; (with_reducible repeat (first | refine blk_drewN ?_ _ | refine blk_drew ?_ | refine blk_alloc ?_ _)); refine blk_far ?_ NB216_240.out _; (with_reducible repeat (first | refine blk_drewN ?_ _ | refine blk_drew ?_ | refine blk_alloc ?_ _)); exact BK216.out) hb); have n4_ := Aside0.mk (blk_below (g := gb224) (o := .cells #[.int .i64 x225000_14, .slice Ao83 x225001_14.length co83] 32 (0, 0)) (by (with_reducible repeat (first | refine blk_drewN ?_ _ | refine blk_drew ?_ | refine blk_alloc ?_ _)); refine blk_far ?_ NB224_240.out _; (with_reducible repeat (first | refine blk_drewN ?_ _ | refine blk_drew ?_ | refine blk_alloc ?_ _)); refine blk_far ?_ NB224_240.out _; (with_reducible repeat (first | refine blk_drewN ?_ _ | refine blk_drew ?_ | refine blk_alloc ?_ _)); exact BK224.out) hb); have n5_ := Aside0.mk (blk_below (g := gb240) (o := .cells #[.int .i64 t235, .slice Ao90 t236.length co90] 32 (0, 0)) (by (with_reducible repeat (first | refine blk_drewN ?_ _ | refine blk_drew ?_ | refine blk_alloc ?_ _)); refine blk_put (cs := #[.int .i64 t235, .slice none 0 0]) ?_ 1 _ rfl; (with_reducible repeat (first | refine blk_drewN ?_ _ | refine blk_drew ?_ | refine blk_alloc ?_ _)); refine blk_put (cs := #[.int .i64 0, .slice none 0 0]) ?_ 0 _ rfl; (with_reducible repeat (first | refine blk_drewN ?_ _ | refine blk_drew ?_ | refine blk_alloc ?_ _)); exact BK240.out) hb); have n6_ := Aside0.mk (below_step (by repeat (first | (with_reducible first | exact HB.out | apply below_alloc | apply pw_below_drewN | apply below_drew1 | refine below_set ?_ GE216.out | refine below_set ?_ GE224.out | refine below_set ?_ GE240.out) | exact HB.out)) hb); clear HO_217001; clear HO_225001; clear HO238; clear BK216; clear BK224; clear BK240; clear HB; have HO_217001 := n0_; have HO_225001 := n1_; have HO238 := n2_; have BK216 := n3_; have BK224 := n4_; have BK240 := n5_; have HB := n6_; clear n0_ n1_ n2_ n3_ n4_ n5_ n6_; (try clear hb); (try clear hb2); (try clear hk); (try clear hi); have hcz97_0 : w96.cell? ⟨gb224, 0, none⟩ = some (.int .i64 x225000_14) := (blk_cell BK224.out 0).trans rfl; have hcz97_1 : w96.cell? ⟨gb224, 1, none⟩ = some (.slice Ao83 x225001_14.length co83) := (blk_cell BK224.out 1).trans rfl; have hfz97_0 := blk_frozen BK224.out 0; have hfz97_1 := blk_frozen BK224.out 1; have hcz98_0 : w96.cell? ⟨gb216, 0, none⟩ = some (.int .i64 x217000_1) := (blk_cell BK216.out 0).trans rfl; have hcz98_1 : w96.cell? ⟨gb216, 1, none⟩ = some (.slice Ao16 x217001_1.length co16) := (blk_cell BK216.out 1).trans rfl; have hfz98_0 := blk_frozen BK216.out 0; have hfz98_1 := blk_frozen BK216.out 1))
                                  go_roundg kj32
                                  case measure => have := HK1.out; have := HJ14.out; have := HJ32.out; omega
                                  case rel => exact ⟨(wrap64 (x7_1 + 1)), (x225000_14), (x225001_14), (.slice Ao83 x225001_14.length co83), (by first | rfl | (simp; done) | (simp [*]; done)), H', ⟨by have := HK1.out; have := HJ14.out; have := HJ32.out; omega⟩, ⟨by (with_reducible repeat (first | apply Kd.R_alloc | apply Kd.R_drewN | apply Kd.R_drew)); exact Kd.R_mono (Kd.R_far (p := ⟨gb216, 1, none⟩) (Kd.R_far (p := ⟨gb216, 0, none⟩) (Kd.R_types HO_225001.out BK216.out (by decide)) (fun _ hk => hk.2) (.int .i64 x225000_14)) (fun _ hk => hk.2) (.slice Ao83 x225001_14.length co83)) (fun _ hk => trivial)⟩, ⟨by (with_reducible repeat (first | refine blk_drewN ?_ _ | refine blk_drew ?_ | refine blk_alloc ?_ _)); refine blk_put (cs := #[.int .i64 x225000_14, .slice Ao16 x217001_1.length co16]) ?_ 1 _ rfl; (with_reducible repeat (first | refine blk_drewN ?_ _ | refine blk_drew ?_ | refine blk_alloc ?_ _)); refine blk_put (cs := #[.int .i64 x217000_1, .slice Ao16 x217001_1.length co16]) ?_ 0 _ rfl; (with_reducible repeat (first | refine blk_drewN ?_ _ | refine blk_drew ?_ | refine blk_alloc ?_ _)); exact BK216.out⟩, ⟨by repeat (first | (with_reducible first | exact HB.out | apply below_alloc | apply pw_below_drewN | apply below_drew1 | refine below_set ?_ GE216.out | refine below_set ?_ GE224.out | refine below_set ?_ GE240.out) | exact HB.out)⟩⟩
                                · replace c80 := Bool.eq_false_iff.mpr c80
                                  subst c80
                                  have H1 : (none) = some r := by rw [if_neg (show ¬ (false = true) by decide)] at H; exact H
                                  clear H
                                  have H := H1
                                  clear H1
                                  exact absurd H (by simp)
                              · rw [if_neg c78] at H
                                exact absurd H (by simp)
                            · rw [if_neg c76] at H
                              exact absurd H (by simp)
                          · rw [if_neg c75] at H
                            exact absurd H (by simp)
                        · rw [if_neg c74] at H
                          have c74b0 : decide ((x217001_1.length : Int) < (x225001_14.length : Int)) = false := decide_eq_false c74
                          have c74b1 : decide (x217001_1.length < x225001_14.length) = false := decide_eq_false (fun h => c74 (Int.ofNat_lt.mpr h))
                          clear c74
                          have H' := Aside0.mk H
                          clear H
                          have hnb99 := NB224_216.out
                          have hnc99 := NB216_224.out
                          have hcz100_0 : wc.cell? ⟨gb224, 0, none⟩ = some (.int .i64 x225000_14) := (blk_cell BK224.out 0).trans rfl
                          have hcz100_1 : wc.cell? ⟨gb224, 1, none⟩ = some (u225001) := (blk_cell BK224.out 1).trans rfl
                          have hfz100_0 := blk_frozen BK224.out 0
                          have hfz100_1 := blk_frozen BK224.out 1
                          obtain ⟨Ao101, co101, eo101⟩ := Kd.R_slice HO_225001.out
                          subst eo101
                          have hcz102_0 : wc.cell? ⟨gb216, 0, none⟩ = some (.int .i64 x217000_1) := (blk_cell BK216.out 0).trans rfl
                          have hcz102_1 : wc.cell? ⟨gb216, 1, none⟩ = some (.slice Ao16 x217001_1.length co16) := (blk_cell BK216.out 1).trans rfl
                          have hfz102_0 := blk_frozen BK216.out 0
                          have hfz102_1 := blk_frozen BK216.out 1
                          go_wp2
                          go_roundg kj32
                          case measure => have := HK1.out; have := HJ14.out; have := HJ32.out; omega
                          case rel => exact ⟨(wrap64 (x7_1 + 1)), (x225000_14), (x225001_14), (.slice Ao101 x225001_14.length co101), (by first | rfl | (simp; done) | (simp [*]; done)), H', ⟨by have := HK1.out; have := HJ14.out; have := HJ32.out; omega⟩, ⟨by (with_reducible repeat (first | apply Kd.R_alloc | apply Kd.R_drewN | apply Kd.R_drew)); exact Kd.R_mono (Kd.R_far (p := ⟨gb216, 1, none⟩) (Kd.R_far (p := ⟨gb216, 0, none⟩) (Kd.R_types HO_225001.out BK216.out (by decide)) (fun _ hk => hk.2) (.int .i64 x225000_14)) (fun _ hk => hk.2) (.slice Ao101 x225001_14.length co101)) (fun _ hk => trivial)⟩, ⟨by (with_reducible repeat (first | refine blk_drewN ?_ _ | refine blk_drew ?_ | refine blk_alloc ?_ _)); refine blk_put (cs := #[.int .i64 x225000_14, .slice Ao16 x217001_1.length co16]) ?_ 1 _ rfl; (with_reducible repeat (first | refine blk_drewN ?_ _ | refine blk_drew ?_ | refine blk_alloc ?_ _)); refine blk_put (cs := #[.int .i64 x217000_1, .slice Ao16 x217001_1.length co16]) ?_ 0 _ rfl; (with_reducible repeat (first | refine blk_drewN ?_ _ | refine blk_drew ?_ | refine blk_alloc ?_ _)); exact BK216.out⟩, ⟨by repeat (first | (with_reducible first | exact HB.out | apply below_alloc | apply pw_below_drewN | apply below_drew1 | refine below_set ?_ GE216.out | refine below_set ?_ GE224.out) | exact HB.out)⟩⟩
                · rw [if_neg c32] at H
                  have c32b0 : (x9_14 == 0) = false := beq_eq_false_iff_ne.mpr c32
                  have c32b1 : (x9_14 != 0) = true := bne_iff_ne.mpr c32
                  have H' := Aside0.mk H
                  clear H
                  go_wp2
                  go_roundg kj14
                  case measure => have := HK1.out; have := HJ14.out; omega
                  case rel => exact ⟨(wrap64 (x7_1 + 1)), (x217000_1), (x217001_1), (.slice Ao16 x217001_1.length co16), (by first | rfl | (simp; done) | (simp [*]; done)), H', ⟨by have := HK1.out; have := HJ14.out; omega⟩, ⟨by (with_reducible repeat (first | apply Kd.R_alloc | apply Kd.R_drewN | apply Kd.R_drew)); exact Kd.R_mono HO_217001.out (fun _ hk => trivial)⟩, ⟨by (with_reducible repeat (first | refine blk_drewN ?_ _ | refine blk_drew ?_ | refine blk_alloc ?_ _)); exact BK216.out⟩, ⟨by repeat (first | (with_reducible first | exact HB.out | apply below_alloc | apply pw_below_drewN | apply below_drew1 | refine below_set ?_ GE216.out | refine below_set ?_ GE224.out) | exact HB.out)⟩⟩
          · rw [if_neg c13] at H
            exact absurd H (by simp)
        · rw [if_neg c12] at H
          have c12b0 : decide (x7_1 < (l1.length : Int)) = false := decide_eq_false c12
          clear c12
          replace H := Option.bind_eq_some_iff.mp H
          obtain ⟨t217, A1030, H⟩ := H
          replace H : (some (t217 == 0)) = some r := H
          have A103 := Aside0.mk A1030
          clear A1030
          obtain rfl := Option.some.inj H
          have hcz104_0 : wr.cell? ⟨gb216, 0, none⟩ = some (.int .i64 x217000_1) := (blk_cell BK216.out 0).trans rfl
          have hcz104_1 : wr.cell? ⟨gb216, 1, none⟩ = some (u217001) := (blk_cell BK216.out 1).trans rfl
          have hfz104_0 := blk_frozen BK216.out 0
          have hfz104_1 := blk_frozen BK216.out 1
          obtain ⟨Ao105, co105, eo105⟩ := Kd.R_slice HO_217001.out
          subst eo105
          go_wp2_with (first | ((with_reducible refine gate_callee (f := 19) rfl ?_); refine goesL_ (some 103) rfl rfl Try.func19 (by kernel_rfl) rfl #[.agg #[.int .i64 x217000_1, .slice Ao105 x217001_1.length co105]] rfl (by (try simp only [List.map_toArray, List.map_cons, List.map_nil]); first | done | rfl | (simp only [List.length_drop, List.length_take]; rfl)) ?_; (with_reducible refine (config_Check.calls x217000_1 _ _ x217001_1 t217 _ ?side1 ?side2 A103.out).mono ?_); (case side1 => repeat (first | exact (Kd.R_reads' HO_217001.out).2.2 | (with_reducible refine Kd.C_alloc ?_ _) | (with_reducible refine Kd.C_drewN ?_ _) | (with_reducible refine Kd.C_drew ?_))); (case side2 => exact (Kd.R_reads' HO_217001.out).2.1); rintro e w106 ⟨rfl, hb⟩; refine ⟨_, rfl, ?_⟩; have n0_ := Aside0.mk (Kd.R_below (by (with_reducible repeat (first | apply Kd.R_alloc | apply Kd.R_drewN | apply Kd.R_drew)); exact HO_217001.out) hb); have n1_ := Aside0.mk (blk_below (g := gb216) (o := .cells #[.int .i64 x217000_1, .slice Ao105 x217001_1.length co105] 32 (0, 0)) (by (with_reducible repeat (first | refine blk_drewN ?_ _ | refine blk_drew ?_ | refine blk_alloc ?_ _)); exact BK216.out) hb); have n2_ := Aside0.mk (below_step (by repeat (first | (with_reducible first | exact HB.out | apply below_alloc | apply pw_below_drewN | apply below_drew1 | refine below_set ?_ GE216.out) | exact HB.out)) hb); clear HO_217001; clear BK216; clear HB; have HO_217001 := n0_; have BK216 := n1_; have HB := n2_; clear n0_ n1_ n2_; (try clear hb); (try clear hb2); (try clear hk); (try clear hi)))
          go_ret
          exact ⟨by first | rfl | (simp [errW_none, errW_some] <;> rfl) | (simp [*, errW_none, errW_some] <;> rfl), by repeat (first | (with_reducible first | exact HB.out | apply below_alloc | apply pw_below_drewN | apply below_drew1 | refine below_set ?_ GE216.out) | exact HB.out)⟩
  · rw [if_neg c5] at H
    exact absurd H (by simp)

end Go.Proofs.Ytjhijklgpgdlaaa.G
