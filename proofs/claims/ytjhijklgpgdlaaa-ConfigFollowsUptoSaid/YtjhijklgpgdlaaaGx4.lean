-- Written for this claim by a program of this session (wip/xprint.py), by means of the kit's print. Not trusted: Lean checks it.
import Derived.Test.YtjhijklgpgdlaaaGx0
import Derived.Test.YtjhijklgpgdlaaaGx3
namespace Go.Proofs.Ytjhijklgpgdlaaa.G
open Go.RowKit Go.Proofs.YtjhijklgpgdlaaaW.PrintWords Go.Proofs.YtjhijklgpgdlaaaW.PrintLast Go.Proofs.YtjhijklgpgdlaaaW.PrintMore
attribute [local go_sem] max2_int min2_int max_two min_two max_three min_three max_four min_four   -- for this text's walks alone
set_option linter.unusedVariables false
set_option linter.unusedSimpArgs false

/-! ### config_Follows: function 27 -/
mutual
def config_Follows.j0 : Nat → Bool → Int → List Int → Int → List Int → Option (Bool)
  | 0, _, _, _, _, _ => none
  | k + 1, x24, x110000, x110001, x111000, x111001 => if x24 = true then (some false) else (if (x111001.length : Int) > (x110001.length : Int) then (config_Follows.j1 k x111001 x110001 x110000 x110001 x111000 x111001) else (config_Follows.j1 k x110001 x111001 x110000 x110001 x111000 x111001))
def config_Follows.j1 : Nat → List Int → List Int → Int → List Int → Int → List Int → Option (Bool)
  | 0, _, _, _, _, _, _ => none
  | k + 1, x5, x6, x110000, x110001, x111000, x111001 => if (x5.length : Int) = (wrap64 ((x6.length : Int) + 1)) then (config_Follows.l0 k x5 x6 (x6.length : Int) (x6.length : Int) 0 x110000 x110001 x111000 x111001) else (some false)
def config_Follows.l0 : Nat → List Int → List Int → Int → Int → Int → Int → List Int → Int → List Int → Option (Bool)
  | 0, _, _, _, _, _, _, _, _, _ => none
  | k + 1, x5, x6, x7, x49, x50, x110000, x110001, x111000, x111001 => if x50 < x49 then (if 0 ≤ x50 then (if x50 < (x6.length : Int) then (if x50 < (x5.length : Int) then (if (rd x6 x50) = (rd x5 x50) then (config_Follows.l0 k x5 x6 x7 x49 (wrap64 (x50 + 1)) x110000 x110001 x111000 x111001) else (if (x111001.length : Int) > (x110001.length : Int) then (if x50 = (x6.length : Int) then (if 0 ≤ (wrap64 (x50 + 1)) then (if (wrap64 (x50 + 1)) ≤ (x5.length : Int) then ((slices_Equal_int_int.f k (x6.drop (x50 : Int).toNat) (x5.drop ((wrap64 (x50 + 1)) : Int).toNat)).bind fun t125 => (some t125)) else (none)) else (none)) else (some false)) else (if 0 ≤ (wrap64 (x50 + 1)) then (if (wrap64 (x50 + 1)) ≤ (x5.length : Int) then ((slices_Equal_int_int.f k (x6.drop (x50 : Int).toNat) (x5.drop ((wrap64 (x50 + 1)) : Int).toNat)).bind fun t136 => (some t136)) else (none)) else (none)))) else (none)) else (none)) else (none)) else (if (x111001.length : Int) > (x110001.length : Int) then (if x7 = (x6.length : Int) then (if 0 ≤ x7 then (if x7 ≤ (x6.length : Int) then (if 0 ≤ (wrap64 (x7 + 1)) then (if (wrap64 (x7 + 1)) ≤ (x5.length : Int) then ((slices_Equal_int_int.f k (x6.drop (x7 : Int).toNat) (x5.drop ((wrap64 (x7 + 1)) : Int).toNat)).bind fun t147 => (some t147)) else (none)) else (none)) else (none)) else (none)) else (some false)) else (if 0 ≤ x7 then (if x7 ≤ (x6.length : Int) then (if 0 ≤ (wrap64 (x7 + 1)) then (if (wrap64 (x7 + 1)) ≤ (x5.length : Int) then ((slices_Equal_int_int.f k (x6.drop (x7 : Int).toNat) (x5.drop ((wrap64 (x7 + 1)) : Int).toNat)).bind fun t158 => (some t158)) else (none)) else (none)) else (none)) else (none)))
end
def config_Follows.f (k : Nat) (a0_0 : Int) (l0_1 : List Int) (a1_0 : Int) (l1_1 : List Int) : Option (Bool) := (config_Check.f a0_0 l0_1).bind fun t111 => (if t111 = 0 then ((config_Check.f a1_0 l1_1).bind fun t112 => (if t112 = 0 then (config_Follows.j0 k (a1_0 != (wrap64 (a0_0 + 1))) a0_0 l0_1 a1_0 l1_1) else (config_Follows.j0 k true a0_0 l0_1 a1_0 l1_1))) else (config_Follows.j0 k true a0_0 l0_1 a1_0 l1_1))
theorem config_Follows.mono_l : ∀ k, (∀ y0 y1 y2 y3 y4, LeO (config_Follows.j0 k y0 y1 y2 y3 y4) (config_Follows.j0 (k + 1) y0 y1 y2 y3 y4)) ∧ (∀ y0 y1 y2 y3 y4 y5, LeO (config_Follows.j1 k y0 y1 y2 y3 y4 y5) (config_Follows.j1 (k + 1) y0 y1 y2 y3 y4 y5)) ∧ (∀ y0 y1 y2 y3 y4 y5 y6 y7 y8, LeO (config_Follows.l0 k y0 y1 y2 y3 y4 y5 y6 y7 y8) (config_Follows.l0 (k + 1) y0 y1 y2 y3 y4 y5 y6 y7 y8))
  | 0 => ⟨fun _ _ _ _ _ r h => by simp [config_Follows.j0] at h, fun _ _ _ _ _ _ r h => by simp [config_Follows.j1] at h, fun _ _ _ _ _ _ _ _ _ r h => by simp [config_Follows.l0] at h⟩
  | k + 1 => by
    obtain ⟨ih0, ih1, ih2⟩ := config_Follows.mono_l k
    refine ⟨?_, ?_, ?_⟩
    · intro y0 y1 y2 y3 y4
      unfold config_Follows.j0
      repeat' first
      | (with_reducible exact ih0 _ _ _ _ _)
      | (with_reducible exact ih1 _ _ _ _ _ _)
      | (with_reducible exact ih2 _ _ _ _ _ _ _ _ _)
      | (with_reducible exact slices_Equal_int_int.mono _ _ _)
      | (with_reducible exact LeO.refl _)
      | (with_reducible exact LeO.none _)
      | (with_reducible refine LeO.ite ?_ ?_)
      | (with_reducible refine LeO.bind ?_ (fun _ => ?_))
      | exact ih0 _ _ _ _ _
      | exact ih1 _ _ _ _ _ _
      | exact ih2 _ _ _ _ _ _ _ _ _
      | exact slices_Equal_int_int.mono _ _ _
      | exact LeO.none _
      | refine LeO.ite ?_ ?_
      | refine LeO.bind ?_ (fun _ => ?_)
    · intro y0 y1 y2 y3 y4 y5
      unfold config_Follows.j1
      repeat' first
      | (with_reducible exact ih0 _ _ _ _ _)
      | (with_reducible exact ih1 _ _ _ _ _ _)
      | (with_reducible exact ih2 _ _ _ _ _ _ _ _ _)
      | (with_reducible exact slices_Equal_int_int.mono _ _ _)
      | (with_reducible exact LeO.refl _)
      | (with_reducible exact LeO.none _)
      | (with_reducible refine LeO.ite ?_ ?_)
      | (with_reducible refine LeO.bind ?_ (fun _ => ?_))
      | exact ih0 _ _ _ _ _
      | exact ih1 _ _ _ _ _ _
      | exact ih2 _ _ _ _ _ _ _ _ _
      | exact slices_Equal_int_int.mono _ _ _
      | exact LeO.none _
      | refine LeO.ite ?_ ?_
      | refine LeO.bind ?_ (fun _ => ?_)
    · intro y0 y1 y2 y3 y4 y5 y6 y7 y8
      unfold config_Follows.l0
      repeat' first
      | (with_reducible exact ih0 _ _ _ _ _)
      | (with_reducible exact ih1 _ _ _ _ _ _)
      | (with_reducible exact ih2 _ _ _ _ _ _ _ _ _)
      | (with_reducible exact slices_Equal_int_int.mono _ _ _)
      | (with_reducible exact LeO.refl _)
      | (with_reducible exact LeO.none _)
      | (with_reducible refine LeO.ite ?_ ?_)
      | (with_reducible refine LeO.bind ?_ (fun _ => ?_))
      | exact ih0 _ _ _ _ _
      | exact ih1 _ _ _ _ _ _
      | exact ih2 _ _ _ _ _ _ _ _ _
      | exact slices_Equal_int_int.mono _ _ _
      | exact LeO.none _
      | refine LeO.ite ?_ ?_
      | refine LeO.bind ?_ (fun _ => ?_)
theorem config_Follows.mono : ∀ a0 a1 a2 a3 k, LeO (config_Follows.f k a0 a1 a2 a3) (config_Follows.f (k + 1) a0 a1 a2 a3) := by
  intro a0 a1 a2 a3 k
  obtain ⟨ih0, ih1, ih2⟩ := config_Follows.mono_l k
  unfold config_Follows.f
  repeat' first
      | (with_reducible exact ih0 _ _ _ _ _)
      | (with_reducible exact ih1 _ _ _ _ _ _)
      | (with_reducible exact ih2 _ _ _ _ _ _ _ _ _)
      | (with_reducible exact slices_Equal_int_int.mono _ _ _)
      | (with_reducible exact LeO.refl _)
      | (with_reducible exact LeO.none _)
      | (with_reducible refine LeO.ite ?_ ?_)
      | (with_reducible refine LeO.bind ?_ (fun _ => ?_))
      | exact ih0 _ _ _ _ _
      | exact ih1 _ _ _ _ _ _
      | exact ih2 _ _ _ _ _ _ _ _ _
      | exact slices_Equal_int_int.mono _ _ _
      | exact LeO.none _
      | refine LeO.ite ?_ ?_
      | refine LeO.bind ?_ (fun _ => ?_)
set_option maxHeartbeats 8000000 in
set_option maxRecDepth 100000 in
theorem config_Follows.calls (k : Nat) (a0_0 : Int) (P0_1_ : Nat → Prop) (A0_1 : Option Addr) (c0_1 : Nat) (l0_1 : List Int) (a1_0 : Int) (P1_1_ : Nat → Prop) (A1_1 : Option Addr) (c1_1 : Nat) (l1_1 : List Int) (r : Bool) (w : World) (hs0_1 : Kd.V (Kd.int .i64) 3 w w.heap.size (fun k_ => P0_1_ k_) (.slice A0_1 l0_1.length c0_1) l0_1) (hs1_1 : Kd.V (Kd.int .i64) 3 w w.heap.size (fun k_ => P1_1_ k_) (.slice A1_1 l1_1.length c1_1) l1_1) (h : config_Follows.f k a0_0 l0_1 a1_0 l1_1 = some r) :
    Calls Try.prog 27 #[.agg #[.int .i64 a0_0, .slice A0_1 l0_1.length c0_1], .agg #[.int .i64 a1_0, .slice A1_1 l1_1.length c1_1]] w fun e w' => e = .returned (.bool r) ∧ Below w.heap.size w w' := by
  have hu32 := Try.underlying32
  have HO0_1 := A_ (show Kd.V (Kd.int .i64) 3 w w.heap.size (fun k_ => ((P0_1_ k_ ∨ P1_1_ k_) ∨ w.heap.size ≤ k_)) (.slice A0_1 l0_1.length c0_1) l0_1 from Kd.V_mono hs0_1 (fun k_ hk => .inl (.inl hk)))
  have HO1_1 := A_ (show Kd.V (Kd.int .i64) 3 w w.heap.size (fun k_ => ((P0_1_ k_ ∨ P1_1_ k_) ∨ w.heap.size ≤ k_)) (.slice A1_1 l1_1.length c1_1) l1_1 from Kd.V_mono hs1_1 (fun k_ hk => .inl (.inr hk)))
  have HB := A_ (Below.refl w.heap.size w)
  have H : ((config_Check.f a0_0 l0_1).bind fun t111 => (if t111 = 0 then ((config_Check.f a1_0 l1_1).bind fun t112 => (if t112 = 0 then (config_Follows.j0 k (a1_0 != (wrap64 (a0_0 + 1))) a0_0 l0_1 a1_0 l1_1) else (config_Follows.j0 k true a0_0 l0_1 a1_0 l1_1))) else (config_Follows.j0 k true a0_0 l0_1 a1_0 l1_1))) = some r := h
  clear h
  have HC3 := A_ H
  clear H
  go_enter Try.func27, Try.ntmps27
  go_upto_region 1 with (first | ((with_reducible refine gate_dst (N := 2) rfl ?_); (try (refine gate_guard (by rfl) ?_; dsimp only)); refine box_event ?hg (N := 2) ?hd (cs := #[.int .i64 a0_0, .slice A0_1 l0_1.length c0_1]) (t := 32) ?hr ?_; (case hd => rfl); (case hg => rfl); (case hr => first | (go_simp; done) | (go_simp; rfl)); intro gb109 hg w4 hbox hb; have n0_ := A_ (Kd.V_below (Kd.V_elderB (by (with_reducible repeat (first | apply vA_ | apply vN_ | apply vD_)); exact HO0_1.out) gb109 (Nat.le_of_eq hg.symm)) hb); have n1_ := A_ (Kd.V_below (Kd.V_elderB (by (with_reducible repeat (first | apply vA_ | apply vN_ | apply vD_)); exact HO1_1.out) gb109 (Nat.le_of_eq hg.symm)) hb); have n2_ := A_ (below_step (by repeat (first | (with_reducible first | exact HB.out | apply pA_ | apply pN_ | apply pD_) | exact HB.out)) hb); have n3_ := A_ (hbox); have n4_ := A_ ((by rw [hg]; exact (below_size (by repeat (first | (with_reducible first | exact HB.out | apply pA_ | apply pN_ | apply pD_) | exact HB.out))) : w.heap.size ≤ gb109)); have n5_ := A_ ((by rw [hg]; exact (below_size (by repeat (first | (with_reducible first | exact HB.out | apply pA_ | apply pN_ | apply pD_) | exact HB.out))) : w.heap.size ≤ gb109)); clear HO0_1; clear HO1_1; clear HB; have HO0_1 := n0_; have HO1_1 := n1_; have HB := n2_; have BK109 := n3_; have GW109 := n4_; have GE109 := n5_; clear n0_ n1_ n2_ n3_ n4_ n5_; clear hb hbox hg) | ((with_reducible refine gate_dst (N := 3) rfl ?_); (try (refine gate_guard (by rfl) ?_; dsimp only)); refine box_event ?hg (N := 3) ?hd (cs := #[.int .i64 a1_0, .slice A1_1 l1_1.length c1_1]) (t := 32) ?hr ?_; (case hd => rfl); (case hg => rfl); (case hr => first | (go_simp; done) | (go_simp; rfl)); intro gb110 hg w5 hbox hb; have n0_ := A_ (Kd.V_below (Kd.V_elderB (by (with_reducible repeat (first | apply vA_ | apply vN_ | apply vD_)); exact HO0_1.out) gb110 (Nat.le_of_eq hg.symm)) hb); have n1_ := A_ (Kd.V_below (Kd.V_elderB (by (with_reducible repeat (first | apply vA_ | apply vN_ | apply vD_)); exact HO1_1.out) gb110 (Nat.le_of_eq hg.symm)) hb); have n2_ := A_ (blk_below (g := gb109) (o := .cells #[.int .i64 a0_0, .slice A0_1 l0_1.length c0_1] 32 (0, 0)) (by (with_reducible repeat (first | refine bN_ ?_ _ | refine bD_ ?_ | refine bA_ ?_ _)); exact BK109.out) hb); have n3_ := A_ (below_step (by repeat (first | (with_reducible first | exact HB.out | apply pA_ | apply pN_ | apply pD_ | refine bs_ ?_ GE109.out) | exact HB.out)) hb); have n4_ := A_ (hbox); have n5_ := A_ ((by rw [hg]; exact (below_size (by repeat (first | (with_reducible first | exact HB.out | apply pA_ | apply pN_ | apply pD_ | refine bs_ ?_ GE109.out) | exact HB.out))) : w.heap.size ≤ gb110)); have n6_ := A_ ((by rw [hg]; exact (below_size (by repeat (first | (with_reducible first | exact HB.out | apply pA_ | apply pN_ | apply pD_ | refine bs_ ?_ GE109.out) | exact HB.out))) : w.heap.size ≤ gb110)); have n7_ := A_ ((by rw [hg]; exact Nat.ne_of_lt (blk_lt (g := gb109) (o := .cells #[.int .i64 a0_0, .slice A0_1 l0_1.length c0_1] 32 (0, 0)) (by (with_reducible repeat (first | refine bN_ ?_ _ | refine bD_ ?_ | refine bA_ ?_ _)); exact BK109.out)) : gb109 ≠ gb110)); have n8_ := A_ ((by rw [hg]; exact Nat.ne_of_gt (blk_lt (g := gb109) (o := .cells #[.int .i64 a0_0, .slice A0_1 l0_1.length c0_1] 32 (0, 0)) (by (with_reducible repeat (first | refine bN_ ?_ _ | refine bD_ ?_ | refine bA_ ?_ _)); exact BK109.out)) : gb110 ≠ gb109)); clear HO0_1; clear HO1_1; clear BK109; clear HB; have HO0_1 := n0_; have HO1_1 := n1_; have BK109 := n2_; have HB := n3_; have BK110 := n4_; have GW110 := n5_; have GE110 := n6_; have NB109_110 := n7_; have NB110_109 := n8_; clear n0_ n1_ n2_ n3_ n4_ n5_ n6_ n7_ n8_; clear hb hbox hg))
  repeat (go_quiet (first | ((with_reducible refine gate_dst (N := 2) rfl ?_); (try (refine gate_guard (by rfl) ?_; dsimp only)); refine box_event ?hg (N := 2) ?hd (cs := #[.int .i64 a0_0, .slice A0_1 l0_1.length c0_1]) (t := 32) ?hr ?_; (case hd => rfl); (case hg => rfl); (case hr => first | (go_simp; done) | (go_simp; rfl)); intro gb109 hg w4 hbox hb; have n0_ := A_ (Kd.V_below (Kd.V_elderB (by (with_reducible repeat (first | apply vA_ | apply vN_ | apply vD_)); exact HO0_1.out) gb109 (Nat.le_of_eq hg.symm)) hb); have n1_ := A_ (Kd.V_below (Kd.V_elderB (by (with_reducible repeat (first | apply vA_ | apply vN_ | apply vD_)); exact HO1_1.out) gb109 (Nat.le_of_eq hg.symm)) hb); have n2_ := A_ (below_step (by repeat (first | (with_reducible first | exact HB.out | apply pA_ | apply pN_ | apply pD_) | exact HB.out)) hb); have n3_ := A_ (hbox); have n4_ := A_ ((by rw [hg]; exact (below_size (by repeat (first | (with_reducible first | exact HB.out | apply pA_ | apply pN_ | apply pD_) | exact HB.out))) : w.heap.size ≤ gb109)); have n5_ := A_ ((by rw [hg]; exact (below_size (by repeat (first | (with_reducible first | exact HB.out | apply pA_ | apply pN_ | apply pD_) | exact HB.out))) : w.heap.size ≤ gb109)); clear HO0_1; clear HO1_1; clear HB; have HO0_1 := n0_; have HO1_1 := n1_; have HB := n2_; have BK109 := n3_; have GW109 := n4_; have GE109 := n5_; clear n0_ n1_ n2_ n3_ n4_ n5_; clear hb hbox hg) | ((with_reducible refine gate_dst (N := 3) rfl ?_); (try (refine gate_guard (by rfl) ?_; dsimp only)); refine box_event ?hg (N := 3) ?hd (cs := #[.int .i64 a1_0, .slice A1_1 l1_1.length c1_1]) (t := 32) ?hr ?_; (case hd => rfl); (case hg => rfl); (case hr => first | (go_simp; done) | (go_simp; rfl)); intro gb110 hg w5 hbox hb; have n0_ := A_ (Kd.V_below (Kd.V_elderB (by (with_reducible repeat (first | apply vA_ | apply vN_ | apply vD_)); exact HO0_1.out) gb110 (Nat.le_of_eq hg.symm)) hb); have n1_ := A_ (Kd.V_below (Kd.V_elderB (by (with_reducible repeat (first | apply vA_ | apply vN_ | apply vD_)); exact HO1_1.out) gb110 (Nat.le_of_eq hg.symm)) hb); have n2_ := A_ (blk_below (g := gb109) (o := .cells #[.int .i64 a0_0, .slice A0_1 l0_1.length c0_1] 32 (0, 0)) (by (with_reducible repeat (first | refine bN_ ?_ _ | refine bD_ ?_ | refine bA_ ?_ _)); exact BK109.out) hb); have n3_ := A_ (below_step (by repeat (first | (with_reducible first | exact HB.out | apply pA_ | apply pN_ | apply pD_ | refine bs_ ?_ GE109.out) | exact HB.out)) hb); have n4_ := A_ (hbox); have n5_ := A_ ((by rw [hg]; exact (below_size (by repeat (first | (with_reducible first | exact HB.out | apply pA_ | apply pN_ | apply pD_ | refine bs_ ?_ GE109.out) | exact HB.out))) : w.heap.size ≤ gb110)); have n6_ := A_ ((by rw [hg]; exact (below_size (by repeat (first | (with_reducible first | exact HB.out | apply pA_ | apply pN_ | apply pD_ | refine bs_ ?_ GE109.out) | exact HB.out))) : w.heap.size ≤ gb110)); have n7_ := A_ ((by rw [hg]; exact Nat.ne_of_lt (blk_lt (g := gb109) (o := .cells #[.int .i64 a0_0, .slice A0_1 l0_1.length c0_1] 32 (0, 0)) (by (with_reducible repeat (first | refine bN_ ?_ _ | refine bD_ ?_ | refine bA_ ?_ _)); exact BK109.out)) : gb109 ≠ gb110)); have n8_ := A_ ((by rw [hg]; exact Nat.ne_of_gt (blk_lt (g := gb109) (o := .cells #[.int .i64 a0_0, .slice A0_1 l0_1.length c0_1] 32 (0, 0)) (by (with_reducible repeat (first | refine bN_ ?_ _ | refine bD_ ?_ | refine bA_ ?_ _)); exact BK109.out)) : gb110 ≠ gb109)); clear HO0_1; clear HO1_1; clear BK109; clear HB; have HO0_1 := n0_; have HO1_1 := n1_; have BK109 := n2_; have HB := n3_; have BK110 := n4_; have GW110 := n5_; have GE110 := n6_; have NB109_110 := n7_; have NB110_109 := n8_; clear n0_ n1_ n2_ n3_ n4_ n5_ n6_ n7_ n8_; clear hb hbox hg)); go_upto_region 1 with (first | ((with_reducible refine gate_dst (N := 2) rfl ?_); (try (refine gate_guard (by rfl) ?_; dsimp only)); refine box_event ?hg (N := 2) ?hd (cs := #[.int .i64 a0_0, .slice A0_1 l0_1.length c0_1]) (t := 32) ?hr ?_; (case hd => rfl); (case hg => rfl); (case hr => first | (go_simp; done) | (go_simp; rfl)); intro gb109 hg w4 hbox hb; have n0_ := A_ (Kd.V_below (Kd.V_elderB (by (with_reducible repeat (first | apply vA_ | apply vN_ | apply vD_)); exact HO0_1.out) gb109 (Nat.le_of_eq hg.symm)) hb); have n1_ := A_ (Kd.V_below (Kd.V_elderB (by (with_reducible repeat (first | apply vA_ | apply vN_ | apply vD_)); exact HO1_1.out) gb109 (Nat.le_of_eq hg.symm)) hb); have n2_ := A_ (below_step (by repeat (first | (with_reducible first | exact HB.out | apply pA_ | apply pN_ | apply pD_) | exact HB.out)) hb); have n3_ := A_ (hbox); have n4_ := A_ ((by rw [hg]; exact (below_size (by repeat (first | (with_reducible first | exact HB.out | apply pA_ | apply pN_ | apply pD_) | exact HB.out))) : w.heap.size ≤ gb109)); have n5_ := A_ ((by rw [hg]; exact (below_size (by repeat (first | (with_reducible first | exact HB.out | apply pA_ | apply pN_ | apply pD_) | exact HB.out))) : w.heap.size ≤ gb109)); clear HO0_1; clear HO1_1; clear HB; have HO0_1 := n0_; have HO1_1 := n1_; have HB := n2_; have BK109 := n3_; have GW109 := n4_; have GE109 := n5_; clear n0_ n1_ n2_ n3_ n4_ n5_; clear hb hbox hg) | ((with_reducible refine gate_dst (N := 3) rfl ?_); (try (refine gate_guard (by rfl) ?_; dsimp only)); refine box_event ?hg (N := 3) ?hd (cs := #[.int .i64 a1_0, .slice A1_1 l1_1.length c1_1]) (t := 32) ?hr ?_; (case hd => rfl); (case hg => rfl); (case hr => first | (go_simp; done) | (go_simp; rfl)); intro gb110 hg w5 hbox hb; have n0_ := A_ (Kd.V_below (Kd.V_elderB (by (with_reducible repeat (first | apply vA_ | apply vN_ | apply vD_)); exact HO0_1.out) gb110 (Nat.le_of_eq hg.symm)) hb); have n1_ := A_ (Kd.V_below (Kd.V_elderB (by (with_reducible repeat (first | apply vA_ | apply vN_ | apply vD_)); exact HO1_1.out) gb110 (Nat.le_of_eq hg.symm)) hb); have n2_ := A_ (blk_below (g := gb109) (o := .cells #[.int .i64 a0_0, .slice A0_1 l0_1.length c0_1] 32 (0, 0)) (by (with_reducible repeat (first | refine bN_ ?_ _ | refine bD_ ?_ | refine bA_ ?_ _)); exact BK109.out) hb); have n3_ := A_ (below_step (by repeat (first | (with_reducible first | exact HB.out | apply pA_ | apply pN_ | apply pD_ | refine bs_ ?_ GE109.out) | exact HB.out)) hb); have n4_ := A_ (hbox); have n5_ := A_ ((by rw [hg]; exact (below_size (by repeat (first | (with_reducible first | exact HB.out | apply pA_ | apply pN_ | apply pD_ | refine bs_ ?_ GE109.out) | exact HB.out))) : w.heap.size ≤ gb110)); have n6_ := A_ ((by rw [hg]; exact (below_size (by repeat (first | (with_reducible first | exact HB.out | apply pA_ | apply pN_ | apply pD_ | refine bs_ ?_ GE109.out) | exact HB.out))) : w.heap.size ≤ gb110)); have n7_ := A_ ((by rw [hg]; exact Nat.ne_of_lt (blk_lt (g := gb109) (o := .cells #[.int .i64 a0_0, .slice A0_1 l0_1.length c0_1] 32 (0, 0)) (by (with_reducible repeat (first | refine bN_ ?_ _ | refine bD_ ?_ | refine bA_ ?_ _)); exact BK109.out)) : gb109 ≠ gb110)); have n8_ := A_ ((by rw [hg]; exact Nat.ne_of_gt (blk_lt (g := gb109) (o := .cells #[.int .i64 a0_0, .slice A0_1 l0_1.length c0_1] 32 (0, 0)) (by (with_reducible repeat (first | refine bN_ ?_ _ | refine bD_ ?_ | refine bA_ ?_ _)); exact BK109.out)) : gb110 ≠ gb109)); clear HO0_1; clear HO1_1; clear BK109; clear HB; have HO0_1 := n0_; have HO1_1 := n1_; have BK109 := n2_; have HB := n3_; have BK110 := n4_; have GW110 := n5_; have GE110 := n6_; have NB109_110 := n7_; have NB110_109 := n8_; clear n0_ n1_ n2_ n3_ n4_ n5_ n6_ n7_ n8_; clear hb hbox hg)))
  (try simp only [Act.put, l1_, l2_, l3_])
  go_cut [24] (fun v24 wc => ∃ (kq : Nat) (x24_2 : Bool), v24 = .bool x24_2 ∧ Aside0 (config_Follows.j0 kq x24_2 a0_0 l0_1 a1_0 l1_1 = some r) ∧ Aside0 (kq ≤ k) ∧ Aside0 (Kd.V (Kd.int .i64) 3 wc w.heap.size (fun k_ => ((P0_1_ k_ ∨ P1_1_ k_) ∨ w.heap.size ≤ k_) ∧ k_ ≠ gb109 ∧ k_ ≠ gb110) (.slice A0_1 l0_1.length c0_1) l0_1) ∧ Aside0 (Kd.V (Kd.int .i64) 3 wc w.heap.size (fun k_ => ((P0_1_ k_ ∨ P1_1_ k_) ∨ w.heap.size ≤ k_) ∧ k_ ≠ gb109 ∧ k_ ≠ gb110) (.slice A1_1 l1_1.length c1_1) l1_1) ∧ Aside0 (wc.heap[gb109]? = some (.cells #[.int .i64 a0_0, (.slice A0_1 l0_1.length c0_1)] 32 (0, 0))) ∧ Aside0 (wc.heap[gb110]? = some (.cells #[.int .i64 a1_0, (.slice A1_1 l1_1.length c1_1)] 32 (0, 0))) ∧ Aside0 (Below w.heap.size w wc))
  case first =>
    have H := HC3.out
    clear HC3
    replace H := Option.bind_eq_some_iff.mp H
    obtain ⟨t111, A60, H⟩ := H
    replace H : (if t111 = 0 then ((config_Check.f a1_0 l1_1).bind fun t112 => (if t112 = 0 then (config_Follows.j0 k (a1_0 != (wrap64 (a0_0 + 1))) a0_0 l0_1 a1_0 l1_1) else (config_Follows.j0 k true a0_0 l0_1 a1_0 l1_1))) else (config_Follows.j0 k true a0_0 l0_1 a1_0 l1_1)) = some r := H
    have A6 := A_ A60
    clear A60
    by_cases c7 : t111 = 0
    · rw [if_pos c7] at H
      have c7b0 : (t111 == 0) = true := beq_iff_eq.mpr c7
      have c7b1 : (t111 != 0) = false := bne_eq_false_iff_eq.mpr c7
      clear c7
      (first | rw [c7b0] | (simp only [i64_w, i32_w]; rw [c7b0]) | rw [c7b1] | skip)
      replace H := Option.bind_eq_some_iff.mp H
      obtain ⟨t112, A80, H⟩ := H
      replace H : (if t112 = 0 then (config_Follows.j0 k (a1_0 != (wrap64 (a0_0 + 1))) a0_0 l0_1 a1_0 l1_1) else (config_Follows.j0 k true a0_0 l0_1 a1_0 l1_1)) = some r := H
      have A8 := A_ A80
      clear A80
      by_cases c9 : t112 = 0
      · rw [if_pos c9] at H
        have c9b0 : (t112 == 0) = true := beq_iff_eq.mpr c9
        have c9b1 : (t112 != 0) = false := bne_eq_false_iff_eq.mpr c9
        clear c9
        have H' := A_ H
        clear H
        have hnb10 := NB109_110.out
        have hnc10 := NB110_109.out
        have hcz11_0 : w5.cell? ⟨gb109, 0, none⟩ = some (.int .i64 a0_0) := (bc_ BK109.out 0).trans rfl
        have hcz11_1 : w5.cell? ⟨gb109, 1, none⟩ = some (.slice A0_1 l0_1.length c0_1) := (bc_ BK109.out 1).trans rfl
        have hfz11_0 := blk_frozen BK109.out 0
        have hfz11_1 := blk_frozen BK109.out 1
        go_wp2_with (first | (go_at_call 19; (with_reducible refine (config_Check.calls a0_0 _ _ l0_1 t111 _ ?side1 ?side2 A6.out).mono ?_); (case side1 => repeat (first | exact (Kd.V_reads' HO0_1.out).2.2 | (with_reducible refine Kd.C_alloc ?_ _) | (with_reducible refine Kd.C_drewN ?_ _) | (with_reducible refine Kd.C_drew ?_))); (case side2 => exact (Kd.V_reads' HO0_1.out).2.1); rintro e w12 ⟨rfl, hb⟩; have n0_ := A_ (Kd.V_below (by (with_reducible repeat (first | apply vA_ | apply vN_ | apply vD_)); exact HO0_1.out) hb); have n1_ := A_ (Kd.V_below (by (with_reducible repeat (first | apply vA_ | apply vN_ | apply vD_)); exact HO1_1.out) hb); have n2_ := A_ (blk_below (g := gb109) (o := .cells #[.int .i64 a0_0, .slice A0_1 l0_1.length c0_1] 32 (0, 0)) (by (with_reducible repeat (first | refine bN_ ?_ _ | refine bD_ ?_ | refine bA_ ?_ _)); exact BK109.out) hb); have n3_ := A_ (blk_below (g := gb110) (o := .cells #[.int .i64 a1_0, .slice A1_1 l1_1.length c1_1] 32 (0, 0)) (by (with_reducible repeat (first | refine bN_ ?_ _ | refine bD_ ?_ | refine bA_ ?_ _)); exact BK110.out) hb); have n4_ := A_ (below_step (by repeat (first | (with_reducible first | exact HB.out | apply pA_ | apply pN_ | apply pD_ | refine bs_ ?_ GE109.out | refine bs_ ?_ GE110.out) | exact HB.out)) hb); clear HO0_1; clear HO1_1; clear BK109; clear BK110; clear HB; have HO0_1 := n0_; have HO1_1 := n1_; have BK109 := n2_; have BK110 := n3_; have HB := n4_; clear n0_ n1_ n2_ n3_ n4_; (try clear hb); (try clear hb2); (try clear hk); (try clear hi); have hcz13_0 : w12.cell? ⟨gb110, 0, none⟩ = some (.int .i64 a1_0) := (bc_ BK110.out 0).trans rfl; have hcz13_1 : w12.cell? ⟨gb110, 1, none⟩ = some (.slice A1_1 l1_1.length c1_1) := (bc_ BK110.out 1).trans rfl; have hfz13_0 := blk_frozen BK110.out 0; have hfz13_1 := blk_frozen BK110.out 1) | (go_at_call 19; (with_reducible refine (config_Check.calls a1_0 _ _ l1_1 t112 _ ?side1 ?side2 A8.out).mono ?_); (case side1 => repeat (first | exact (Kd.V_reads' HO1_1.out).2.2 | (with_reducible refine Kd.C_alloc ?_ _) | (with_reducible refine Kd.C_drewN ?_ _) | (with_reducible refine Kd.C_drew ?_))); (case side2 => exact (Kd.V_reads' HO1_1.out).2.1); rintro e w14 ⟨rfl, hb⟩; have n0_ := A_ (Kd.V_below (by (with_reducible repeat (first | apply vA_ | apply vN_ | apply vD_)); exact HO0_1.out) hb); have n1_ := A_ (Kd.V_below (by (with_reducible repeat (first | apply vA_ | apply vN_ | apply vD_)); exact HO1_1.out) hb); have n2_ := A_ (blk_below (g := gb109) (o := .cells #[.int .i64 a0_0, .slice A0_1 l0_1.length c0_1] 32 (0, 0)) (by (with_reducible repeat (first | refine bN_ ?_ _ | refine bD_ ?_ | refine bA_ ?_ _)); exact BK109.out) hb); have n3_ := A_ (blk_below (g := gb110) (o := .cells #[.int .i64 a1_0, .slice A1_1 l1_1.length c1_1] 32 (0, 0)) (by (with_reducible repeat (first | refine bN_ ?_ _ | refine bD_ ?_ | refine bA_ ?_ _)); exact BK110.out) hb); have n4_ := A_ (below_step (by repeat (first | (with_reducible first | exact HB.out | apply pA_ | apply pN_ | apply pD_ | refine bs_ ?_ GE109.out | refine bs_ ?_ GE110.out) | exact HB.out)) hb); clear HO0_1; clear HO1_1; clear BK109; clear BK110; clear HB; have HO0_1 := n0_; have HO1_1 := n1_; have BK109 := n2_; have BK110 := n3_; have HB := n4_; clear n0_ n1_ n2_ n3_ n4_; (try clear hb); (try clear hb2); (try clear hk); (try clear hi); have hcz15_0 : w14.cell? ⟨gb110, 0, none⟩ = some (.int .i64 a1_0) := (bc_ BK110.out 0).trans rfl; have hcz15_1 : w14.cell? ⟨gb110, 1, none⟩ = some (.slice A1_1 l1_1.length c1_1) := (bc_ BK110.out 1).trans rfl; have hfz15_0 := blk_frozen BK110.out 0; have hfz15_1 := blk_frozen BK110.out 1; have hcz16_0 : w14.cell? ⟨gb109, 0, none⟩ = some (.int .i64 a0_0) := (bc_ BK109.out 0).trans rfl; have hcz16_1 : w14.cell? ⟨gb109, 1, none⟩ = some (.slice A0_1 l0_1.length c0_1) := (bc_ BK109.out 1).trans rfl; have hfz16_0 := blk_frozen BK109.out 0; have hfz16_1 := blk_frozen BK109.out 1))
        repeat (go_quiet (first | (go_at_call 19; (with_reducible refine (config_Check.calls a0_0 _ _ l0_1 t111 _ ?side1 ?side2 A6.out).mono ?_); (case side1 => repeat (first | exact (Kd.V_reads' HO0_1.out).2.2 | (with_reducible refine Kd.C_alloc ?_ _) | (with_reducible refine Kd.C_drewN ?_ _) | (with_reducible refine Kd.C_drew ?_))); (case side2 => exact (Kd.V_reads' HO0_1.out).2.1); rintro e w12 ⟨rfl, hb⟩; have n0_ := A_ (Kd.V_below (by (with_reducible repeat (first | apply vA_ | apply vN_ | apply vD_)); exact HO0_1.out) hb); have n1_ := A_ (Kd.V_below (by (with_reducible repeat (first | apply vA_ | apply vN_ | apply vD_)); exact HO1_1.out) hb); have n2_ := A_ (blk_below (g := gb109) (o := .cells #[.int .i64 a0_0, .slice A0_1 l0_1.length c0_1] 32 (0, 0)) (by (with_reducible repeat (first | refine bN_ ?_ _ | refine bD_ ?_ | refine bA_ ?_ _)); exact BK109.out) hb); have n3_ := A_ (blk_below (g := gb110) (o := .cells #[.int .i64 a1_0, .slice A1_1 l1_1.length c1_1] 32 (0, 0)) (by (with_reducible repeat (first | refine bN_ ?_ _ | refine bD_ ?_ | refine bA_ ?_ _)); exact BK110.out) hb); have n4_ := A_ (below_step (by repeat (first | (with_reducible first | exact HB.out | apply pA_ | apply pN_ | apply pD_ | refine bs_ ?_ GE109.out | refine bs_ ?_ GE110.out) | exact HB.out)) hb); clear HO0_1; clear HO1_1; clear BK109; clear BK110; clear HB; have HO0_1 := n0_; have HO1_1 := n1_; have BK109 := n2_; have BK110 := n3_; have HB := n4_; clear n0_ n1_ n2_ n3_ n4_; (try clear hb); (try clear hb2); (try clear hk); (try clear hi); have hcz13_0 : w12.cell? ⟨gb110, 0, none⟩ = some (.int .i64 a1_0) := (bc_ BK110.out 0).trans rfl; have hcz13_1 : w12.cell? ⟨gb110, 1, none⟩ = some (.slice A1_1 l1_1.length c1_1) := (bc_ BK110.out 1).trans rfl; have hfz13_0 := blk_frozen BK110.out 0; have hfz13_1 := blk_frozen BK110.out 1) | (go_at_call 19; (with_reducible refine (config_Check.calls a1_0 _ _ l1_1 t112 _ ?side1 ?side2 A8.out).mono ?_); (case side1 => repeat (first | exact (Kd.V_reads' HO1_1.out).2.2 | (with_reducible refine Kd.C_alloc ?_ _) | (with_reducible refine Kd.C_drewN ?_ _) | (with_reducible refine Kd.C_drew ?_))); (case side2 => exact (Kd.V_reads' HO1_1.out).2.1); rintro e w14 ⟨rfl, hb⟩; have n0_ := A_ (Kd.V_below (by (with_reducible repeat (first | apply vA_ | apply vN_ | apply vD_)); exact HO0_1.out) hb); have n1_ := A_ (Kd.V_below (by (with_reducible repeat (first | apply vA_ | apply vN_ | apply vD_)); exact HO1_1.out) hb); have n2_ := A_ (blk_below (g := gb109) (o := .cells #[.int .i64 a0_0, .slice A0_1 l0_1.length c0_1] 32 (0, 0)) (by (with_reducible repeat (first | refine bN_ ?_ _ | refine bD_ ?_ | refine bA_ ?_ _)); exact BK109.out) hb); have n3_ := A_ (blk_below (g := gb110) (o := .cells #[.int .i64 a1_0, .slice A1_1 l1_1.length c1_1] 32 (0, 0)) (by (with_reducible repeat (first | refine bN_ ?_ _ | refine bD_ ?_ | refine bA_ ?_ _)); exact BK110.out) hb); have n4_ := A_ (below_step (by repeat (first | (with_reducible first | exact HB.out | apply pA_ | apply pN_ | apply pD_ | refine bs_ ?_ GE109.out | refine bs_ ?_ GE110.out) | exact HB.out)) hb); clear HO0_1; clear HO1_1; clear BK109; clear BK110; clear HB; have HO0_1 := n0_; have HO1_1 := n1_; have BK109 := n2_; have BK110 := n3_; have HB := n4_; clear n0_ n1_ n2_ n3_ n4_; (try clear hb); (try clear hb2); (try clear hk); (try clear hi); have hcz15_0 : w14.cell? ⟨gb110, 0, none⟩ = some (.int .i64 a1_0) := (bc_ BK110.out 0).trans rfl; have hcz15_1 : w14.cell? ⟨gb110, 1, none⟩ = some (.slice A1_1 l1_1.length c1_1) := (bc_ BK110.out 1).trans rfl; have hfz15_0 := blk_frozen BK110.out 0; have hfz15_1 := blk_frozen BK110.out 1; have hcz16_0 : w14.cell? ⟨gb109, 0, none⟩ = some (.int .i64 a0_0) := (bc_ BK109.out 0).trans rfl; have hcz16_1 : w14.cell? ⟨gb109, 1, none⟩ = some (.slice A0_1 l0_1.length c0_1) := (bc_ BK109.out 1).trans rfl; have hfz16_0 := blk_frozen BK109.out 0; have hfz16_1 := blk_frozen BK109.out 1)); try go_wp2_with (first | (go_at_call 19; (with_reducible refine (config_Check.calls a0_0 _ _ l0_1 t111 _ ?side1 ?side2 A6.out).mono ?_); (case side1 => repeat (first | exact (Kd.V_reads' HO0_1.out).2.2 | (with_reducible refine Kd.C_alloc ?_ _) | (with_reducible refine Kd.C_drewN ?_ _) | (with_reducible refine Kd.C_drew ?_))); (case side2 => exact (Kd.V_reads' HO0_1.out).2.1); rintro e w12 ⟨rfl, hb⟩; have n0_ := A_ (Kd.V_below (by (with_reducible repeat (first | apply vA_ | apply vN_ | apply vD_)); exact HO0_1.out) hb); have n1_ := A_ (Kd.V_below (by (with_reducible repeat (first | apply vA_ | apply vN_ | apply vD_)); exact HO1_1.out) hb); have n2_ := A_ (blk_below (g := gb109) (o := .cells #[.int .i64 a0_0, .slice A0_1 l0_1.length c0_1] 32 (0, 0)) (by (with_reducible repeat (first | refine bN_ ?_ _ | refine bD_ ?_ | refine bA_ ?_ _)); exact BK109.out) hb); have n3_ := A_ (blk_below (g := gb110) (o := .cells #[.int .i64 a1_0, .slice A1_1 l1_1.length c1_1] 32 (0, 0)) (by (with_reducible repeat (first | refine bN_ ?_ _ | refine bD_ ?_ | refine bA_ ?_ _)); exact BK110.out) hb); have n4_ := A_ (below_step (by repeat (first | (with_reducible first | exact HB.out | apply pA_ | apply pN_ | apply pD_ | refine bs_ ?_ GE109.out | refine bs_ ?_ GE110.out) | exact HB.out)) hb); clear HO0_1; clear HO1_1; clear BK109; clear BK110; clear HB; have HO0_1 := n0_; have HO1_1 := n1_; have BK109 := n2_; have BK110 := n3_; have HB := n4_; clear n0_ n1_ n2_ n3_ n4_; (try clear hb); (try clear hb2); (try clear hk); (try clear hi); have hcz13_0 : w12.cell? ⟨gb110, 0, none⟩ = some (.int .i64 a1_0) := (bc_ BK110.out 0).trans rfl; have hcz13_1 : w12.cell? ⟨gb110, 1, none⟩ = some (.slice A1_1 l1_1.length c1_1) := (bc_ BK110.out 1).trans rfl; have hfz13_0 := blk_frozen BK110.out 0; have hfz13_1 := blk_frozen BK110.out 1) | (go_at_call 19; (with_reducible refine (config_Check.calls a1_0 _ _ l1_1 t112 _ ?side1 ?side2 A8.out).mono ?_); (case side1 => repeat (first | exact (Kd.V_reads' HO1_1.out).2.2 | (with_reducible refine Kd.C_alloc ?_ _) | (with_reducible refine Kd.C_drewN ?_ _) | (with_reducible refine Kd.C_drew ?_))); (case side2 => exact (Kd.V_reads' HO1_1.out).2.1); rintro e w14 ⟨rfl, hb⟩; have n0_ := A_ (Kd.V_below (by (with_reducible repeat (first | apply vA_ | apply vN_ | apply vD_)); exact HO0_1.out) hb); have n1_ := A_ (Kd.V_below (by (with_reducible repeat (first | apply vA_ | apply vN_ | apply vD_)); exact HO1_1.out) hb); have n2_ := A_ (blk_below (g := gb109) (o := .cells #[.int .i64 a0_0, .slice A0_1 l0_1.length c0_1] 32 (0, 0)) (by (with_reducible repeat (first | refine bN_ ?_ _ | refine bD_ ?_ | refine bA_ ?_ _)); exact BK109.out) hb); have n3_ := A_ (blk_below (g := gb110) (o := .cells #[.int .i64 a1_0, .slice A1_1 l1_1.length c1_1] 32 (0, 0)) (by (with_reducible repeat (first | refine bN_ ?_ _ | refine bD_ ?_ | refine bA_ ?_ _)); exact BK110.out) hb); have n4_ := A_ (below_step (by repeat (first | (with_reducible first | exact HB.out | apply pA_ | apply pN_ | apply pD_ | refine bs_ ?_ GE109.out | refine bs_ ?_ GE110.out) | exact HB.out)) hb); clear HO0_1; clear HO1_1; clear BK109; clear BK110; clear HB; have HO0_1 := n0_; have HO1_1 := n1_; have BK109 := n2_; have BK110 := n3_; have HB := n4_; clear n0_ n1_ n2_ n3_ n4_; (try clear hb); (try clear hb2); (try clear hk); (try clear hi); have hcz15_0 : w14.cell? ⟨gb110, 0, none⟩ = some (.int .i64 a1_0) := (bc_ BK110.out 0).trans rfl; have hcz15_1 : w14.cell? ⟨gb110, 1, none⟩ = some (.slice A1_1 l1_1.length c1_1) := (bc_ BK110.out 1).trans rfl; have hfz15_0 := blk_frozen BK110.out 0; have hfz15_1 := blk_frozen BK110.out 1; have hcz16_0 : w14.cell? ⟨gb109, 0, none⟩ = some (.int .i64 a0_0) := (bc_ BK109.out 0).trans rfl; have hcz16_1 : w14.cell? ⟨gb109, 1, none⟩ = some (.slice A0_1 l0_1.length c0_1) := (bc_ BK109.out 1).trans rfl; have hfz16_0 := blk_frozen BK109.out 0; have hfz16_1 := blk_frozen BK109.out 1)))
        go_meet
        case rel => exact ⟨_, ((a1_0 != (wrap64 (a0_0 + 1)))), (by first | rfl | (simp; done) | (simp [*]; done)), H', ⟨by first | omega | exact Nat.le_refl _⟩, ⟨by (with_reducible repeat (first | apply vA_ | apply vN_ | apply vD_)); exact Kd.V_mono HO0_1.out (fun _ hk => ⟨hk.1.1, ⟨hk.1.2, hk.2⟩⟩)⟩, ⟨by (with_reducible repeat (first | apply vA_ | apply vN_ | apply vD_)); exact Kd.V_mono HO1_1.out (fun _ hk => ⟨hk.1.1, ⟨hk.1.2, hk.2⟩⟩)⟩, ⟨by (with_reducible repeat (first | refine bN_ ?_ _ | refine bD_ ?_ | refine bA_ ?_ _)); exact BK109.out⟩, ⟨by (with_reducible repeat (first | refine bN_ ?_ _ | refine bD_ ?_ | refine bA_ ?_ _)); exact BK110.out⟩, ⟨by repeat (first | (with_reducible first | exact HB.out | apply pA_ | apply pN_ | apply pD_ | refine bs_ ?_ GE109.out | refine bs_ ?_ GE110.out) | exact HB.out)⟩⟩
      · rw [if_neg c9] at H
        have c9b0 : (t112 == 0) = false := beq_eq_false_iff_ne.mpr c9
        have c9b1 : (t112 != 0) = true := bne_iff_ne.mpr c9
        have H' := A_ H
        clear H
        have hnb17 := NB109_110.out
        have hnc17 := NB110_109.out
        have hcz18_0 : w5.cell? ⟨gb109, 0, none⟩ = some (.int .i64 a0_0) := (bc_ BK109.out 0).trans rfl
        have hcz18_1 : w5.cell? ⟨gb109, 1, none⟩ = some (.slice A0_1 l0_1.length c0_1) := (bc_ BK109.out 1).trans rfl
        have hfz18_0 := blk_frozen BK109.out 0
        have hfz18_1 := blk_frozen BK109.out 1
        go_wp2_with (first | (go_at_call 19; (with_reducible refine (config_Check.calls a0_0 _ _ l0_1 t111 _ ?side1 ?side2 A6.out).mono ?_); (case side1 => repeat (first | exact (Kd.V_reads' HO0_1.out).2.2 | (with_reducible refine Kd.C_alloc ?_ _) | (with_reducible refine Kd.C_drewN ?_ _) | (with_reducible refine Kd.C_drew ?_))); (case side2 => exact (Kd.V_reads' HO0_1.out).2.1); rintro e w19 ⟨rfl, hb⟩; have n0_ := A_ (Kd.V_below (by (with_reducible repeat (first | apply vA_ | apply vN_ | apply vD_)); exact HO0_1.out) hb); have n1_ := A_ (Kd.V_below (by (with_reducible repeat (first | apply vA_ | apply vN_ | apply vD_)); exact HO1_1.out) hb); have n2_ := A_ (blk_below (g := gb109) (o := .cells #[.int .i64 a0_0, .slice A0_1 l0_1.length c0_1] 32 (0, 0)) (by (with_reducible repeat (first | refine bN_ ?_ _ | refine bD_ ?_ | refine bA_ ?_ _)); exact BK109.out) hb); have n3_ := A_ (blk_below (g := gb110) (o := .cells #[.int .i64 a1_0, .slice A1_1 l1_1.length c1_1] 32 (0, 0)) (by (with_reducible repeat (first | refine bN_ ?_ _ | refine bD_ ?_ | refine bA_ ?_ _)); exact BK110.out) hb); have n4_ := A_ (below_step (by repeat (first | (with_reducible first | exact HB.out | apply pA_ | apply pN_ | apply pD_ | refine bs_ ?_ GE109.out | refine bs_ ?_ GE110.out) | exact HB.out)) hb); clear HO0_1; clear HO1_1; clear BK109; clear BK110; clear HB; have HO0_1 := n0_; have HO1_1 := n1_; have BK109 := n2_; have BK110 := n3_; have HB := n4_; clear n0_ n1_ n2_ n3_ n4_; (try clear hb); (try clear hb2); (try clear hk); (try clear hi); have hcz20_0 : w19.cell? ⟨gb110, 0, none⟩ = some (.int .i64 a1_0) := (bc_ BK110.out 0).trans rfl; have hcz20_1 : w19.cell? ⟨gb110, 1, none⟩ = some (.slice A1_1 l1_1.length c1_1) := (bc_ BK110.out 1).trans rfl; have hfz20_0 := blk_frozen BK110.out 0; have hfz20_1 := blk_frozen BK110.out 1) | (go_at_call 19; (with_reducible refine (config_Check.calls a1_0 _ _ l1_1 t112 _ ?side1 ?side2 A8.out).mono ?_); (case side1 => repeat (first | exact (Kd.V_reads' HO1_1.out).2.2 | (with_reducible refine Kd.C_alloc ?_ _) | (with_reducible refine Kd.C_drewN ?_ _) | (with_reducible refine Kd.C_drew ?_))); (case side2 => exact (Kd.V_reads' HO1_1.out).2.1); rintro e w21 ⟨rfl, hb⟩; have n0_ := A_ (Kd.V_below (by (with_reducible repeat (first | apply vA_ | apply vN_ | apply vD_)); exact HO0_1.out) hb); have n1_ := A_ (Kd.V_below (by (with_reducible repeat (first | apply vA_ | apply vN_ | apply vD_)); exact HO1_1.out) hb); have n2_ := A_ (blk_below (g := gb109) (o := .cells #[.int .i64 a0_0, .slice A0_1 l0_1.length c0_1] 32 (0, 0)) (by (with_reducible repeat (first | refine bN_ ?_ _ | refine bD_ ?_ | refine bA_ ?_ _)); exact BK109.out) hb); have n3_ := A_ (blk_below (g := gb110) (o := .cells #[.int .i64 a1_0, .slice A1_1 l1_1.length c1_1] 32 (0, 0)) (by (with_reducible repeat (first | refine bN_ ?_ _ | refine bD_ ?_ | refine bA_ ?_ _)); exact BK110.out) hb); have n4_ := A_ (below_step (by repeat (first | (with_reducible first | exact HB.out | apply pA_ | apply pN_ | apply pD_ | refine bs_ ?_ GE109.out | refine bs_ ?_ GE110.out) | exact HB.out)) hb); clear HO0_1; clear HO1_1; clear BK109; clear BK110; clear HB; have HO0_1 := n0_; have HO1_1 := n1_; have BK109 := n2_; have BK110 := n3_; have HB := n4_; clear n0_ n1_ n2_ n3_ n4_; (try clear hb); (try clear hb2); (try clear hk); (try clear hi)))
        repeat (go_quiet (first | (go_at_call 19; (with_reducible refine (config_Check.calls a0_0 _ _ l0_1 t111 _ ?side1 ?side2 A6.out).mono ?_); (case side1 => repeat (first | exact (Kd.V_reads' HO0_1.out).2.2 | (with_reducible refine Kd.C_alloc ?_ _) | (with_reducible refine Kd.C_drewN ?_ _) | (with_reducible refine Kd.C_drew ?_))); (case side2 => exact (Kd.V_reads' HO0_1.out).2.1); rintro e w19 ⟨rfl, hb⟩; have n0_ := A_ (Kd.V_below (by (with_reducible repeat (first | apply vA_ | apply vN_ | apply vD_)); exact HO0_1.out) hb); have n1_ := A_ (Kd.V_below (by (with_reducible repeat (first | apply vA_ | apply vN_ | apply vD_)); exact HO1_1.out) hb); have n2_ := A_ (blk_below (g := gb109) (o := .cells #[.int .i64 a0_0, .slice A0_1 l0_1.length c0_1] 32 (0, 0)) (by (with_reducible repeat (first | refine bN_ ?_ _ | refine bD_ ?_ | refine bA_ ?_ _)); exact BK109.out) hb); have n3_ := A_ (blk_below (g := gb110) (o := .cells #[.int .i64 a1_0, .slice A1_1 l1_1.length c1_1] 32 (0, 0)) (by (with_reducible repeat (first | refine bN_ ?_ _ | refine bD_ ?_ | refine bA_ ?_ _)); exact BK110.out) hb); have n4_ := A_ (below_step (by repeat (first | (with_reducible first | exact HB.out | apply pA_ | apply pN_ | apply pD_ | refine bs_ ?_ GE109.out | refine bs_ ?_ GE110.out) | exact HB.out)) hb); clear HO0_1; clear HO1_1; clear BK109; clear BK110; clear HB; have HO0_1 := n0_; have HO1_1 := n1_; have BK109 := n2_; have BK110 := n3_; have HB := n4_; clear n0_ n1_ n2_ n3_ n4_; (try clear hb); (try clear hb2); (try clear hk); (try clear hi); have hcz20_0 : w19.cell? ⟨gb110, 0, none⟩ = some (.int .i64 a1_0) := (bc_ BK110.out 0).trans rfl; have hcz20_1 : w19.cell? ⟨gb110, 1, none⟩ = some (.slice A1_1 l1_1.length c1_1) := (bc_ BK110.out 1).trans rfl; have hfz20_0 := blk_frozen BK110.out 0; have hfz20_1 := blk_frozen BK110.out 1) | (go_at_call 19; (with_reducible refine (config_Check.calls a1_0 _ _ l1_1 t112 _ ?side1 ?side2 A8.out).mono ?_); (case side1 => repeat (first | exact (Kd.V_reads' HO1_1.out).2.2 | (with_reducible refine Kd.C_alloc ?_ _) | (with_reducible refine Kd.C_drewN ?_ _) | (with_reducible refine Kd.C_drew ?_))); (case side2 => exact (Kd.V_reads' HO1_1.out).2.1); rintro e w21 ⟨rfl, hb⟩; have n0_ := A_ (Kd.V_below (by (with_reducible repeat (first | apply vA_ | apply vN_ | apply vD_)); exact HO0_1.out) hb); have n1_ := A_ (Kd.V_below (by (with_reducible repeat (first | apply vA_ | apply vN_ | apply vD_)); exact HO1_1.out) hb); have n2_ := A_ (blk_below (g := gb109) (o := .cells #[.int .i64 a0_0, .slice A0_1 l0_1.length c0_1] 32 (0, 0)) (by (with_reducible repeat (first | refine bN_ ?_ _ | refine bD_ ?_ | refine bA_ ?_ _)); exact BK109.out) hb); have n3_ := A_ (blk_below (g := gb110) (o := .cells #[.int .i64 a1_0, .slice A1_1 l1_1.length c1_1] 32 (0, 0)) (by (with_reducible repeat (first | refine bN_ ?_ _ | refine bD_ ?_ | refine bA_ ?_ _)); exact BK110.out) hb); have n4_ := A_ (below_step (by repeat (first | (with_reducible first | exact HB.out | apply pA_ | apply pN_ | apply pD_ | refine bs_ ?_ GE109.out | refine bs_ ?_ GE110.out) | exact HB.out)) hb); clear HO0_1; clear HO1_1; clear BK109; clear BK110; clear HB; have HO0_1 := n0_; have HO1_1 := n1_; have BK109 := n2_; have BK110 := n3_; have HB := n4_; clear n0_ n1_ n2_ n3_ n4_; (try clear hb); (try clear hb2); (try clear hk); (try clear hi))); try go_wp2_with (first | (go_at_call 19; (with_reducible refine (config_Check.calls a0_0 _ _ l0_1 t111 _ ?side1 ?side2 A6.out).mono ?_); (case side1 => repeat (first | exact (Kd.V_reads' HO0_1.out).2.2 | (with_reducible refine Kd.C_alloc ?_ _) | (with_reducible refine Kd.C_drewN ?_ _) | (with_reducible refine Kd.C_drew ?_))); (case side2 => exact (Kd.V_reads' HO0_1.out).2.1); rintro e w19 ⟨rfl, hb⟩; have n0_ := A_ (Kd.V_below (by (with_reducible repeat (first | apply vA_ | apply vN_ | apply vD_)); exact HO0_1.out) hb); have n1_ := A_ (Kd.V_below (by (with_reducible repeat (first | apply vA_ | apply vN_ | apply vD_)); exact HO1_1.out) hb); have n2_ := A_ (blk_below (g := gb109) (o := .cells #[.int .i64 a0_0, .slice A0_1 l0_1.length c0_1] 32 (0, 0)) (by (with_reducible repeat (first | refine bN_ ?_ _ | refine bD_ ?_ | refine bA_ ?_ _)); exact BK109.out) hb); have n3_ := A_ (blk_below (g := gb110) (o := .cells #[.int .i64 a1_0, .slice A1_1 l1_1.length c1_1] 32 (0, 0)) (by (with_reducible repeat (first | refine bN_ ?_ _ | refine bD_ ?_ | refine bA_ ?_ _)); exact BK110.out) hb); have n4_ := A_ (below_step (by repeat (first | (with_reducible first | exact HB.out | apply pA_ | apply pN_ | apply pD_ | refine bs_ ?_ GE109.out | refine bs_ ?_ GE110.out) | exact HB.out)) hb); clear HO0_1; clear HO1_1; clear BK109; clear BK110; clear HB; have HO0_1 := n0_; have HO1_1 := n1_; have BK109 := n2_; have BK110 := n3_; have HB := n4_; clear n0_ n1_ n2_ n3_ n4_; (try clear hb); (try clear hb2); (try clear hk); (try clear hi); have hcz20_0 : w19.cell? ⟨gb110, 0, none⟩ = some (.int .i64 a1_0) := (bc_ BK110.out 0).trans rfl; have hcz20_1 : w19.cell? ⟨gb110, 1, none⟩ = some (.slice A1_1 l1_1.length c1_1) := (bc_ BK110.out 1).trans rfl; have hfz20_0 := blk_frozen BK110.out 0; have hfz20_1 := blk_frozen BK110.out 1) | (go_at_call 19; (with_reducible refine (config_Check.calls a1_0 _ _ l1_1 t112 _ ?side1 ?side2 A8.out).mono ?_); (case side1 => repeat (first | exact (Kd.V_reads' HO1_1.out).2.2 | (with_reducible refine Kd.C_alloc ?_ _) | (with_reducible refine Kd.C_drewN ?_ _) | (with_reducible refine Kd.C_drew ?_))); (case side2 => exact (Kd.V_reads' HO1_1.out).2.1); rintro e w21 ⟨rfl, hb⟩; have n0_ := A_ (Kd.V_below (by (with_reducible repeat (first | apply vA_ | apply vN_ | apply vD_)); exact HO0_1.out) hb); have n1_ := A_ (Kd.V_below (by (with_reducible repeat (first | apply vA_ | apply vN_ | apply vD_)); exact HO1_1.out) hb); have n2_ := A_ (blk_below (g := gb109) (o := .cells #[.int .i64 a0_0, .slice A0_1 l0_1.length c0_1] 32 (0, 0)) (by (with_reducible repeat (first | refine bN_ ?_ _ | refine bD_ ?_ | refine bA_ ?_ _)); exact BK109.out) hb); have n3_ := A_ (blk_below (g := gb110) (o := .cells #[.int .i64 a1_0, .slice A1_1 l1_1.length c1_1] 32 (0, 0)) (by (with_reducible repeat (first | refine bN_ ?_ _ | refine bD_ ?_ | refine bA_ ?_ _)); exact BK110.out) hb); have n4_ := A_ (below_step (by repeat (first | (with_reducible first | exact HB.out | apply pA_ | apply pN_ | apply pD_ | refine bs_ ?_ GE109.out | refine bs_ ?_ GE110.out) | exact HB.out)) hb); clear HO0_1; clear HO1_1; clear BK109; clear BK110; clear HB; have HO0_1 := n0_; have HO1_1 := n1_; have BK109 := n2_; have BK110 := n3_; have HB := n4_; clear n0_ n1_ n2_ n3_ n4_; (try clear hb); (try clear hb2); (try clear hk); (try clear hi))))
        go_meet
        case rel => exact ⟨_, (true), (by first | rfl | (simp; done) | (simp [*]; done)), H', ⟨by first | omega | exact Nat.le_refl _⟩, ⟨by (with_reducible repeat (first | apply vA_ | apply vN_ | apply vD_)); exact Kd.V_mono HO0_1.out (fun _ hk => ⟨hk.1.1, ⟨hk.1.2, hk.2⟩⟩)⟩, ⟨by (with_reducible repeat (first | apply vA_ | apply vN_ | apply vD_)); exact Kd.V_mono HO1_1.out (fun _ hk => ⟨hk.1.1, ⟨hk.1.2, hk.2⟩⟩)⟩, ⟨by (with_reducible repeat (first | refine bN_ ?_ _ | refine bD_ ?_ | refine bA_ ?_ _)); exact BK109.out⟩, ⟨by (with_reducible repeat (first | refine bN_ ?_ _ | refine bD_ ?_ | refine bA_ ?_ _)); exact BK110.out⟩, ⟨by repeat (first | (with_reducible first | exact HB.out | apply pA_ | apply pN_ | apply pD_ | refine bs_ ?_ GE109.out | refine bs_ ?_ GE110.out) | exact HB.out)⟩⟩
    · rw [if_neg c7] at H
      have c7b0 : (t111 == 0) = false := beq_eq_false_iff_ne.mpr c7
      have c7b1 : (t111 != 0) = true := bne_iff_ne.mpr c7
      (first | rw [c7b0] | (simp only [i64_w, i32_w]; rw [c7b0]) | rw [c7b1] | skip)
      have H' := A_ H
      clear H
      have hnb22 := NB109_110.out
      have hnc22 := NB110_109.out
      have hcz23_0 : w5.cell? ⟨gb109, 0, none⟩ = some (.int .i64 a0_0) := (bc_ BK109.out 0).trans rfl
      have hcz23_1 : w5.cell? ⟨gb109, 1, none⟩ = some (.slice A0_1 l0_1.length c0_1) := (bc_ BK109.out 1).trans rfl
      have hfz23_0 := blk_frozen BK109.out 0
      have hfz23_1 := blk_frozen BK109.out 1
      go_wp2_with (first | (go_at_call 19; (with_reducible refine (config_Check.calls a0_0 _ _ l0_1 t111 _ ?side1 ?side2 A6.out).mono ?_); (case side1 => repeat (first | exact (Kd.V_reads' HO0_1.out).2.2 | (with_reducible refine Kd.C_alloc ?_ _) | (with_reducible refine Kd.C_drewN ?_ _) | (with_reducible refine Kd.C_drew ?_))); (case side2 => exact (Kd.V_reads' HO0_1.out).2.1); rintro e w24 ⟨rfl, hb⟩; have n0_ := A_ (Kd.V_below (by (with_reducible repeat (first | apply vA_ | apply vN_ | apply vD_)); exact HO0_1.out) hb); have n1_ := A_ (Kd.V_below (by (with_reducible repeat (first | apply vA_ | apply vN_ | apply vD_)); exact HO1_1.out) hb); have n2_ := A_ (blk_below (g := gb109) (o := .cells #[.int .i64 a0_0, .slice A0_1 l0_1.length c0_1] 32 (0, 0)) (by (with_reducible repeat (first | refine bN_ ?_ _ | refine bD_ ?_ | refine bA_ ?_ _)); exact BK109.out) hb); have n3_ := A_ (blk_below (g := gb110) (o := .cells #[.int .i64 a1_0, .slice A1_1 l1_1.length c1_1] 32 (0, 0)) (by (with_reducible repeat (first | refine bN_ ?_ _ | refine bD_ ?_ | refine bA_ ?_ _)); exact BK110.out) hb); have n4_ := A_ (below_step (by repeat (first | (with_reducible first | exact HB.out | apply pA_ | apply pN_ | apply pD_ | refine bs_ ?_ GE109.out | refine bs_ ?_ GE110.out) | exact HB.out)) hb); clear HO0_1; clear HO1_1; clear BK109; clear BK110; clear HB; have HO0_1 := n0_; have HO1_1 := n1_; have BK109 := n2_; have BK110 := n3_; have HB := n4_; clear n0_ n1_ n2_ n3_ n4_; (try clear hb); (try clear hb2); (try clear hk); (try clear hi)))
      repeat (go_quiet (first | (go_at_call 19; (with_reducible refine (config_Check.calls a0_0 _ _ l0_1 t111 _ ?side1 ?side2 A6.out).mono ?_); (case side1 => repeat (first | exact (Kd.V_reads' HO0_1.out).2.2 | (with_reducible refine Kd.C_alloc ?_ _) | (with_reducible refine Kd.C_drewN ?_ _) | (with_reducible refine Kd.C_drew ?_))); (case side2 => exact (Kd.V_reads' HO0_1.out).2.1); rintro e w24 ⟨rfl, hb⟩; have n0_ := A_ (Kd.V_below (by (with_reducible repeat (first | apply vA_ | apply vN_ | apply vD_)); exact HO0_1.out) hb); have n1_ := A_ (Kd.V_below (by (with_reducible repeat (first | apply vA_ | apply vN_ | apply vD_)); exact HO1_1.out) hb); have n2_ := A_ (blk_below (g := gb109) (o := .cells #[.int .i64 a0_0, .slice A0_1 l0_1.length c0_1] 32 (0, 0)) (by (with_reducible repeat (first | refine bN_ ?_ _ | refine bD_ ?_ | refine bA_ ?_ _)); exact BK109.out) hb); have n3_ := A_ (blk_below (g := gb110) (o := .cells #[.int .i64 a1_0, .slice A1_1 l1_1.length c1_1] 32 (0, 0)) (by (with_reducible repeat (first | refine bN_ ?_ _ | refine bD_ ?_ | refine bA_ ?_ _)); exact BK110.out) hb); have n4_ := A_ (below_step (by repeat (first | (with_reducible first | exact HB.out | apply pA_ | apply pN_ | apply pD_ | refine bs_ ?_ GE109.out | refine bs_ ?_ GE110.out) | exact HB.out)) hb); clear HO0_1; clear HO1_1; clear BK109; clear BK110; clear HB; have HO0_1 := n0_; have HO1_1 := n1_; have BK109 := n2_; have BK110 := n3_; have HB := n4_; clear n0_ n1_ n2_ n3_ n4_; (try clear hb); (try clear hb2); (try clear hk); (try clear hi))); try go_wp2_with (first | (go_at_call 19; (with_reducible refine (config_Check.calls a0_0 _ _ l0_1 t111 _ ?side1 ?side2 A6.out).mono ?_); (case side1 => repeat (first | exact (Kd.V_reads' HO0_1.out).2.2 | (with_reducible refine Kd.C_alloc ?_ _) | (with_reducible refine Kd.C_drewN ?_ _) | (with_reducible refine Kd.C_drew ?_))); (case side2 => exact (Kd.V_reads' HO0_1.out).2.1); rintro e w24 ⟨rfl, hb⟩; have n0_ := A_ (Kd.V_below (by (with_reducible repeat (first | apply vA_ | apply vN_ | apply vD_)); exact HO0_1.out) hb); have n1_ := A_ (Kd.V_below (by (with_reducible repeat (first | apply vA_ | apply vN_ | apply vD_)); exact HO1_1.out) hb); have n2_ := A_ (blk_below (g := gb109) (o := .cells #[.int .i64 a0_0, .slice A0_1 l0_1.length c0_1] 32 (0, 0)) (by (with_reducible repeat (first | refine bN_ ?_ _ | refine bD_ ?_ | refine bA_ ?_ _)); exact BK109.out) hb); have n3_ := A_ (blk_below (g := gb110) (o := .cells #[.int .i64 a1_0, .slice A1_1 l1_1.length c1_1] 32 (0, 0)) (by (with_reducible repeat (first | refine bN_ ?_ _ | refine bD_ ?_ | refine bA_ ?_ _)); exact BK110.out) hb); have n4_ := A_ (below_step (by repeat (first | (with_reducible first | exact HB.out | apply pA_ | apply pN_ | apply pD_ | refine bs_ ?_ GE109.out | refine bs_ ?_ GE110.out) | exact HB.out)) hb); clear HO0_1; clear HO1_1; clear BK109; clear BK110; clear HB; have HO0_1 := n0_; have HO1_1 := n1_; have BK109 := n2_; have BK110 := n3_; have HB := n4_; clear n0_ n1_ n2_ n3_ n4_; (try clear hb); (try clear hb2); (try clear hk); (try clear hi))))
      go_meet
      case rel => exact ⟨_, (true), (by first | rfl | (simp; done) | (simp [*]; done)), H', ⟨by first | omega | exact Nat.le_refl _⟩, ⟨by (with_reducible repeat (first | apply vA_ | apply vN_ | apply vD_)); exact Kd.V_mono HO0_1.out (fun _ hk => ⟨hk.1.1, ⟨hk.1.2, hk.2⟩⟩)⟩, ⟨by (with_reducible repeat (first | apply vA_ | apply vN_ | apply vD_)); exact Kd.V_mono HO1_1.out (fun _ hk => ⟨hk.1.1, ⟨hk.1.2, hk.2⟩⟩)⟩, ⟨by (with_reducible repeat (first | refine bN_ ?_ _ | refine bD_ ?_ | refine bA_ ?_ _)); exact BK109.out⟩, ⟨by (with_reducible repeat (first | refine bN_ ?_ _ | refine bD_ ?_ | refine bA_ ?_ _)); exact BK110.out⟩, ⟨by repeat (first | (with_reducible first | exact HB.out | apply pA_ | apply pN_ | apply pD_ | refine bs_ ?_ GE109.out | refine bs_ ?_ GE110.out) | exact HB.out)⟩⟩
  case rest =>
    clear HC3
    try clear c1
    try clear c2
    try clear p2
    try clear p6
    try clear c7
    try clear c7b0
    try clear c7b1
    try clear c9
    try clear c9b0
    try clear c9b1
    try clear c10
    try clear c17
    try clear c22
    try clear hcz11_0
    try clear hcz11_1
    try clear hcz13_0
    try clear hcz13_1
    try clear hcz15_0
    try clear hcz15_1
    try clear hcz16_0
    try clear hcz16_1
    try clear hcz18_0
    try clear hcz18_1
    try clear hcz20_0
    try clear hcz20_1
    try clear hcz23_0
    try clear hcz23_1
    try clear hfz11_0
    try clear hfz11_1
    try clear hfz13_0
    try clear hfz13_1
    try clear hfz15_0
    try clear hfz15_1
    try clear hfz16_0
    try clear hfz16_1
    try clear hfz18_0
    try clear hfz18_1
    try clear hfz20_0
    try clear hfz20_1
    try clear hfz23_0
    try clear hfz23_1
    obtain ⟨kq, x24_2, rfl, HA, HJ2, HO_110001, HO_111001, BK109, BK110, HB⟩ := hcut
    cases kq with
    | zero => exact absurd HA.out (by simp [config_Follows.j0])
    | succ kj2 =>
      have H := HA.out
      clear HA
      simp only [config_Follows.j0] at H
      by_cases c25 : x24_2 = true
      · subst c25
        have H1 : (some false) = some r := by rw [if_pos rfl] at H; exact H
        clear H
        have H := H1
        clear H1
        obtain rfl := Option.some.inj H
        go_wp2
        repeat (go_quiet (fail); try go_wp2)
        go_ret
        exact ⟨by first | rfl | (simp [errW_none, errW_some] <;> rfl) | (simp [*, errW_none, errW_some] <;> rfl), by repeat (first | (with_reducible first | exact HB.out | apply pA_ | apply pN_ | apply pD_ | refine bs_ ?_ GE109.out | refine bs_ ?_ GE110.out) | exact HB.out)⟩
      · replace c25 := Bool.eq_false_iff.mpr c25
        subst c25
        have H1 : (if (l1_1.length : Int) > (l0_1.length : Int) then (config_Follows.j1 kj2 l1_1 l0_1 a0_0 l0_1 a1_0 l1_1) else (config_Follows.j1 kj2 l0_1 l1_1 a0_0 l0_1 a1_0 l1_1)) = some r := by rw [if_neg (show ¬ (false = true) by decide)] at H; exact H
        clear H
        have H := H1
        clear H1
        have HC26 := A_ H
        clear H
        have hnb27 := NB109_110.out
        have hnc27 := NB110_109.out
        have hcz28_0 : wc.cell? ⟨gb109, 0, none⟩ = some (.int .i64 a0_0) := (bc_ BK109.out 0).trans rfl
        have hcz28_1 : wc.cell? ⟨gb109, 1, none⟩ = some (.slice A0_1 l0_1.length c0_1) := (bc_ BK109.out 1).trans rfl
        have hfz28_0 := blk_frozen BK109.out 0
        have hfz28_1 := blk_frozen BK109.out 1
        have hcz29_0 : wc.cell? ⟨gb110, 0, none⟩ = some (.int .i64 a1_0) := (bc_ BK110.out 0).trans rfl
        have hcz29_1 : wc.cell? ⟨gb110, 1, none⟩ = some (.slice A1_1 l1_1.length c1_1) := (bc_ BK110.out 1).trans rfl
        have hfz29_0 := blk_frozen BK110.out 0
        have hfz29_1 := blk_frozen BK110.out 1
        go_upto_if 35 with (fail)
        repeat (go_quiet (fail); go_upto_if 35 with (fail))
        go_cut [5, 6] (fun v5 v6 wc => ∃ (kq : Nat) (x5_25 : List Int) (x6_25 : List Int), Aside0 (config_Follows.j1 kq x5_25 x6_25 a0_0 l0_1 a1_0 l1_1 = some r) ∧ Aside0 (kq ≤ kj2) ∧ Aside0 (Kd.V (Kd.int .i64) 3 wc w.heap.size (fun k_ => ((P0_1_ k_ ∨ P1_1_ k_) ∨ w.heap.size ≤ k_) ∧ k_ ≠ gb109 ∧ k_ ≠ gb110) v5 x5_25) ∧ Aside0 (Kd.V (Kd.int .i64) 3 wc w.heap.size (fun k_ => ((P0_1_ k_ ∨ P1_1_ k_) ∨ w.heap.size ≤ k_) ∧ k_ ≠ gb109 ∧ k_ ≠ gb110) v6 x6_25) ∧ Aside0 (Kd.V (Kd.int .i64) 3 wc w.heap.size (fun k_ => ((P0_1_ k_ ∨ P1_1_ k_) ∨ w.heap.size ≤ k_) ∧ k_ ≠ gb109 ∧ k_ ≠ gb110) (.slice A0_1 l0_1.length c0_1) l0_1) ∧ Aside0 (Kd.V (Kd.int .i64) 3 wc w.heap.size (fun k_ => ((P0_1_ k_ ∨ P1_1_ k_) ∨ w.heap.size ≤ k_) ∧ k_ ≠ gb109 ∧ k_ ≠ gb110) (.slice A1_1 l1_1.length c1_1) l1_1) ∧ Aside0 (wc.heap[gb109]? = some (.cells #[.int .i64 a0_0, (.slice A0_1 l0_1.length c0_1)] 32 (0, 0))) ∧ Aside0 (wc.heap[gb110]? = some (.cells #[.int .i64 a1_0, (.slice A1_1 l1_1.length c1_1)] 32 (0, 0))) ∧ Aside0 (Below w.heap.size w wc))
        case first =>
          have H := HC26.out
          clear HC26
          by_cases c30 : (l1_1.length : Int) > (l0_1.length : Int)
          · rw [if_pos c30] at H
            have c30b0 : decide ((l0_1.length : Int) < (l1_1.length : Int)) = true := decide_eq_true c30
            have c30b1 : decide (l0_1.length < l1_1.length) = true := decide_eq_true (Int.ofNat_lt.mp c30)
            have c30b2 : decide ((l1_1.length : Int) ≤ (l0_1.length : Int)) = false := decide_eq_false (by omega)
            have c30b3 : decide ((l1_1.length : Int) < (l0_1.length : Int)) = false := decide_eq_false (by omega)
            have c30b4 : decide ((l0_1.length : Int) ≤ (l1_1.length : Int)) = true := decide_eq_true (by omega)
            clear c30
            (first | rw [c30b0] | (simp only [i64_w, i32_w]; rw [c30b0]) | rw [c30b1] | skip)
            have H' := A_ H
            clear H
            have hnb31 := NB110_109.out
            have hnc31 := NB109_110.out
            have hcz32_0 : wc.cell? ⟨gb110, 0, none⟩ = some (.int .i64 a1_0) := (bc_ BK110.out 0).trans rfl
            have hcz32_1 : wc.cell? ⟨gb110, 1, none⟩ = some (.slice A1_1 l1_1.length c1_1) := (bc_ BK110.out 1).trans rfl
            have hfz32_0 := blk_frozen BK110.out 0
            have hfz32_1 := blk_frozen BK110.out 1
            have hcz33_0 : wc.cell? ⟨gb109, 0, none⟩ = some (.int .i64 a0_0) := (bc_ BK109.out 0).trans rfl
            have hcz33_1 : wc.cell? ⟨gb109, 1, none⟩ = some (.slice A0_1 l0_1.length c0_1) := (bc_ BK109.out 1).trans rfl
            have hfz33_0 := blk_frozen BK109.out 0
            have hfz33_1 := blk_frozen BK109.out 1
            go_wp2
            repeat (go_quiet (fail); try go_wp2)
            go_meet
            case rel => exact ⟨_, (l1_1), (l0_1), H', ⟨by have := HJ2.out; first | omega | exact Nat.le_refl _⟩, ⟨by (with_reducible repeat (first | apply vA_ | apply vN_ | apply vD_)); exact HO_111001.out⟩, ⟨by (with_reducible repeat (first | apply vA_ | apply vN_ | apply vD_)); exact HO_110001.out⟩, ⟨by (with_reducible repeat (first | apply vA_ | apply vN_ | apply vD_)); exact HO_110001.out⟩, ⟨by (with_reducible repeat (first | apply vA_ | apply vN_ | apply vD_)); exact HO_111001.out⟩, ⟨by (with_reducible repeat (first | refine bN_ ?_ _ | refine bD_ ?_ | refine bA_ ?_ _)); exact BK109.out⟩, ⟨by (with_reducible repeat (first | refine bN_ ?_ _ | refine bD_ ?_ | refine bA_ ?_ _)); exact BK110.out⟩, ⟨by repeat (first | (with_reducible first | exact HB.out | apply pA_ | apply pN_ | apply pD_ | refine bs_ ?_ GE109.out | refine bs_ ?_ GE110.out) | exact HB.out)⟩⟩
          · rw [if_neg c30] at H
            have c30b0 : decide ((l0_1.length : Int) < (l1_1.length : Int)) = false := decide_eq_false c30
            have c30b1 : decide (l0_1.length < l1_1.length) = false := decide_eq_false (fun h => c30 (Int.ofNat_lt.mpr h))
            have c30b2 : decide ((l1_1.length : Int) ≤ (l0_1.length : Int)) = true := decide_eq_true (by omega)
            clear c30
            (first | rw [c30b0] | (simp only [i64_w, i32_w]; rw [c30b0]) | rw [c30b1] | skip)
            have H' := A_ H
            clear H
            go_wp2
            repeat (go_quiet (fail); try go_wp2)
            go_meet
            case rel => exact ⟨_, (l0_1), (l1_1), H', ⟨by have := HJ2.out; first | omega | exact Nat.le_refl _⟩, ⟨by (with_reducible repeat (first | apply vA_ | apply vN_ | apply vD_)); exact HO_110001.out⟩, ⟨by (with_reducible repeat (first | apply vA_ | apply vN_ | apply vD_)); exact HO_111001.out⟩, ⟨by (with_reducible repeat (first | apply vA_ | apply vN_ | apply vD_)); exact HO_110001.out⟩, ⟨by (with_reducible repeat (first | apply vA_ | apply vN_ | apply vD_)); exact HO_111001.out⟩, ⟨by (with_reducible repeat (first | refine bN_ ?_ _ | refine bD_ ?_ | refine bA_ ?_ _)); exact BK109.out⟩, ⟨by (with_reducible repeat (first | refine bN_ ?_ _ | refine bD_ ?_ | refine bA_ ?_ _)); exact BK110.out⟩, ⟨by repeat (first | (with_reducible first | exact HB.out | apply pA_ | apply pN_ | apply pD_ | refine bs_ ?_ GE109.out | refine bs_ ?_ GE110.out) | exact HB.out)⟩⟩
        case rest =>
          clear HC26
          try clear c1
          try clear c2
          try clear p2
          try clear c3
          try clear p6
          try clear c7
          try clear c7b0
          try clear c7b1
          try clear c9
          try clear c9b0
          try clear c9b1
          try clear c10
          try clear c17
          try clear c22
          try clear c25
          try clear c27
          try clear c30
          try clear c30b0
          try clear c30b1
          try clear c30b2
          try clear c31
          try clear hcz11_0
          try clear hcz11_1
          try clear hcz13_0
          try clear hcz13_1
          try clear hcz15_0
          try clear hcz15_1
          try clear hcz16_0
          try clear hcz16_1
          try clear hcz18_0
          try clear hcz18_1
          try clear hcz20_0
          try clear hcz20_1
          try clear hcz23_0
          try clear hcz23_1
          try clear hcz28_0
          try clear hcz28_1
          try clear hcz29_0
          try clear hcz29_1
          try clear hcz32_0
          try clear hcz32_1
          try clear hcz33_0
          try clear hcz33_1
          try clear hfz11_0
          try clear hfz11_1
          try clear hfz13_0
          try clear hfz13_1
          try clear hfz15_0
          try clear hfz15_1
          try clear hfz16_0
          try clear hfz16_1
          try clear hfz18_0
          try clear hfz18_1
          try clear hfz20_0
          try clear hfz20_1
          try clear hfz23_0
          try clear hfz23_1
          try clear hfz28_0
          try clear hfz28_1
          try clear hfz29_0
          try clear hfz29_1
          try clear hfz32_0
          try clear hfz32_1
          try clear hfz33_0
          try clear hfz33_1
          try clear p2
          try clear p6
          obtain ⟨kq, x5_25, x6_25, HA, HJ25, HO_5, HO_6, HO_110001, HO_111001, BK109, BK110, HB⟩ := hcut
          cases kq with
          | zero => exact absurd HA.out (by simp [config_Follows.j1])
          | succ kj25 =>
            have H := HA.out
            clear HA
            simp only [config_Follows.j1] at H
            by_cases c34 : (x5_25.length : Int) = (wrap64 ((x6_25.length : Int) + 1))
            · rw [if_pos c34] at H
              have c34b0 : ((x5_25.length : Int) == (wrap64 ((x6_25.length : Int) + 1))) = true := beq_iff_eq.mpr c34
              have c34b1 : ((x5_25.length : Int) != (wrap64 ((x6_25.length : Int) + 1))) = false := bne_eq_false_iff_eq.mpr c34
              clear c34
              have H' := A_ H
              clear H
              obtain ⟨Ao35, co35, eo35⟩ := Kd.V_slice HO_5.out
              subst eo35
              obtain ⟨Ao36, co36, eo36⟩ := Kd.V_slice HO_6.out
              subst eo36
              go_wp2
              repeat (go_quiet (fail); try go_wp2)
              go_loopg [7, 50] kj25 (fun kq v7 v50 w' => ∃ (x7_3 : Int) (x50_3 : Int), v7 = .int .i64 x7_3 ∧ v50 = .int .i64 x50_3 ∧ Aside0 (config_Follows.l0 kq x5_25 x6_25 x7_3 (x6_25.length : Int) x50_3 a0_0 l0_1 a1_0 l1_1 = some r) ∧ Aside0 (kq ≤ kj25) ∧ Aside0 (Kd.V (Kd.int .i64) 3 w' w.heap.size (fun k_ => ((P0_1_ k_ ∨ P1_1_ k_) ∨ w.heap.size ≤ k_) ∧ k_ ≠ gb109 ∧ k_ ≠ gb110) (.slice Ao35 x5_25.length co35) x5_25) ∧ Aside0 (Kd.V (Kd.int .i64) 3 w' w.heap.size (fun k_ => ((P0_1_ k_ ∨ P1_1_ k_) ∨ w.heap.size ≤ k_) ∧ k_ ≠ gb109 ∧ k_ ≠ gb110) (.slice Ao36 x6_25.length co36) x6_25) ∧ Aside0 (Kd.V (Kd.int .i64) 3 w' w.heap.size (fun k_ => ((P0_1_ k_ ∨ P1_1_ k_) ∨ w.heap.size ≤ k_) ∧ k_ ≠ gb109 ∧ k_ ≠ gb110) (.slice A0_1 l0_1.length c0_1) l0_1) ∧ Aside0 (Kd.V (Kd.int .i64) 3 w' w.heap.size (fun k_ => ((P0_1_ k_ ∨ P1_1_ k_) ∨ w.heap.size ≤ k_) ∧ k_ ≠ gb109 ∧ k_ ≠ gb110) (.slice A1_1 l1_1.length c1_1) l1_1) ∧ Aside0 (w'.heap[gb109]? = some (.cells #[.int .i64 a0_0, (.slice A0_1 l0_1.length c0_1)] 32 (0, 0))) ∧ Aside0 (w'.heap[gb110]? = some (.cells #[.int .i64 a1_0, (.slice A1_1 l1_1.length c1_1)] 32 (0, 0))) ∧ Aside0 (Below w.heap.size w w'))
              case atStart => exact ⟨((x6_25.length : Int)), (0), (by first | rfl | (simp; done) | (simp [*]; done)), (by first | rfl | (simp; done) | (simp [*]; done)), H', ⟨Nat.le_refl _⟩, ⟨by (with_reducible repeat (first | apply vA_ | apply vN_ | apply vD_)); exact HO_5.out⟩, ⟨by (with_reducible repeat (first | apply vA_ | apply vN_ | apply vD_)); exact HO_6.out⟩, ⟨by (with_reducible repeat (first | apply vA_ | apply vN_ | apply vD_)); exact HO_110001.out⟩, ⟨by (with_reducible repeat (first | apply vA_ | apply vN_ | apply vD_)); exact HO_111001.out⟩, ⟨by (with_reducible repeat (first | refine bN_ ?_ _ | refine bD_ ?_ | refine bA_ ?_ _)); exact BK109.out⟩, ⟨by (with_reducible repeat (first | refine bN_ ?_ _ | refine bD_ ?_ | refine bA_ ?_ _)); exact BK110.out⟩, ⟨by repeat (first | (with_reducible first | exact HB.out | apply pA_ | apply pN_ | apply pD_ | refine bs_ ?_ GE109.out | refine bs_ ?_ GE110.out) | exact HB.out)⟩⟩
              case round =>
                clear H'
                try clear c1
                try clear c2
                try clear p2
                try clear c3
                try clear p6
                try clear c7
                try clear c7b0
                try clear c7b1
                try clear c9
                try clear c9b0
                try clear c9b1
                try clear c10
                try clear c17
                try clear c22
                try clear c25
                try clear c27
                try clear c30
                try clear c30b0
                try clear c30b1
                try clear c30b2
                try clear c31
                try clear c34
                try clear c34b0
                try clear c34b1
                try clear hcz11_0
                try clear hcz11_1
                try clear hcz13_0
                try clear hcz13_1
                try clear hcz15_0
                try clear hcz15_1
                try clear hcz16_0
                try clear hcz16_1
                try clear hcz18_0
                try clear hcz18_1
                try clear hcz20_0
                try clear hcz20_1
                try clear hcz23_0
                try clear hcz23_1
                try clear hcz28_0
                try clear hcz28_1
                try clear hcz29_0
                try clear hcz29_1
                try clear hcz32_0
                try clear hcz32_1
                try clear hcz33_0
                try clear hcz33_1
                try clear hfz11_0
                try clear hfz11_1
                try clear hfz13_0
                try clear hfz13_1
                try clear hfz15_0
                try clear hfz15_1
                try clear hfz16_0
                try clear hfz16_1
                try clear hfz18_0
                try clear hfz18_1
                try clear hfz20_0
                try clear hfz20_1
                try clear hfz23_0
                try clear hfz23_1
                try clear hfz28_0
                try clear hfz28_1
                try clear hfz29_0
                try clear hfz29_1
                try clear hfz32_0
                try clear hfz32_1
                try clear hfz33_0
                try clear hfz33_1
                try clear p2
                try clear p6
                obtain ⟨x7_3, x50_3, rfl, rfl, HA, HK3, HO_5, HO_6, HO_110001, HO_111001, BK109, BK110, HB⟩ := hrel
                cases gk with
                | zero => exact absurd HA.out (by simp [config_Follows.l0])
                | succ k3 =>
                  have H := HA.out
                  clear HA
                  simp only [config_Follows.l0] at H
                  by_cases c37 : x50_3 < (x6_25.length : Int)
                  · rw [if_pos c37] at H
                    have c37b0 : decide (x50_3 < (x6_25.length : Int)) = true := decide_eq_true c37
                    have c37b1 : decide ((x6_25.length : Int) ≤ x50_3) = false := decide_eq_false (by omega)
                    have c37b2 : decide ((x6_25.length : Int) < x50_3) = false := decide_eq_false (by omega)
                    have c37b3 : decide (x50_3 ≤ (x6_25.length : Int)) = true := decide_eq_true (by omega)
                    clear c37
                    by_cases c38 : 0 ≤ x50_3
                    · rw [if_pos c38] at H
                      have c38b0 : decide (0 ≤ x50_3) = true := decide_eq_true c38
                      have c38b1 : decide (x50_3 < 0) = false := decide_eq_false (by omega)
                      clear c38
                      by_cases c39 : x50_3 < (x6_25.length : Int)
                      · rw [if_pos c39] at H
                        have c39b0 : decide (x50_3 < (x6_25.length : Int)) = true := decide_eq_true c39
                        have c39b1 : decide ((x6_25.length : Int) ≤ x50_3) = false := decide_eq_false (by omega)
                        have c39b2 : decide ((x6_25.length : Int) < x50_3) = false := decide_eq_false (by omega)
                        have c39b3 : decide (x50_3 ≤ (x6_25.length : Int)) = true := decide_eq_true (by omega)
                        clear c39
                        by_cases c40 : x50_3 < (x5_25.length : Int)
                        · rw [if_pos c40] at H
                          have c40b0 : decide (x50_3 < (x5_25.length : Int)) = true := decide_eq_true c40
                          have c40b1 : decide ((x5_25.length : Int) ≤ x50_3) = false := decide_eq_false (by omega)
                          have c40b2 : decide ((x5_25.length : Int) < x50_3) = false := decide_eq_false (by omega)
                          have c40b3 : decide (x50_3 ≤ (x5_25.length : Int)) = true := decide_eq_true (by omega)
                          clear c40
                          by_cases c41 : (rd x6_25 x50_3) = (rd x5_25 x50_3)
                          · rw [if_pos c41] at H
                            have c41b0 : ((rd x6_25 x50_3) == (rd x5_25 x50_3)) = true := beq_iff_eq.mpr c41
                            have c41b1 : ((rd x6_25 x50_3) != (rd x5_25 x50_3)) = false := bne_eq_false_iff_eq.mpr c41
                            clear c41
                            have H' := A_ H
                            clear H
                            have p113 : 0 ≤ (x50_3 : Int) := of_decide_eq_true (by first | (with_reducible assumption) | assumption)
                            have q113 : x50_3 < (x6_25.length : Int) := of_decide_eq_true (by first | (with_reducible assumption) | assumption)
                            obtain ⟨ad113, e113, hx113_0⟩ := Kd.at_int (Kd.V_reads' HO_6.out).2.2 x50_3 p113 q113
                            cases e113
                            replace p113 := eq_true p113
                            replace q113 := eq_true q113
                            have p114 : 0 ≤ (x50_3 : Int) := of_decide_eq_true (by first | (with_reducible assumption) | assumption)
                            have q114 : x50_3 < (x5_25.length : Int) := of_decide_eq_true (by first | (with_reducible assumption) | assumption)
                            obtain ⟨ad114, e114, hx114_0⟩ := Kd.at_int (Kd.V_reads' HO_5.out).2.2 x50_3 p114 q114
                            cases e114
                            replace p114 := eq_true p114
                            replace q114 := eq_true q114
                            go_wp2
                            repeat (go_quiet (fail); try go_wp2)
                            go_roundg k3
                            case measure => have := HJ2.out; have := HJ25.out; have := HK3.out; omega
                            case rel => exact ⟨(x7_3), (wrap64 (x50_3 + 1)), (by first | rfl | (simp; done) | (simp [*]; done)), (by first | rfl | (simp; done) | (simp [*]; done)), H', ⟨by have := HJ2.out; have := HJ25.out; have := HK3.out; omega⟩, ⟨by (with_reducible repeat (first | apply vA_ | apply vN_ | apply vD_)); exact HO_5.out⟩, ⟨by (with_reducible repeat (first | apply vA_ | apply vN_ | apply vD_)); exact HO_6.out⟩, ⟨by (with_reducible repeat (first | apply vA_ | apply vN_ | apply vD_)); exact HO_110001.out⟩, ⟨by (with_reducible repeat (first | apply vA_ | apply vN_ | apply vD_)); exact HO_111001.out⟩, ⟨by (with_reducible repeat (first | refine bN_ ?_ _ | refine bD_ ?_ | refine bA_ ?_ _)); exact BK109.out⟩, ⟨by (with_reducible repeat (first | refine bN_ ?_ _ | refine bD_ ?_ | refine bA_ ?_ _)); exact BK110.out⟩, ⟨by repeat (first | (with_reducible first | exact HB.out | apply pA_ | apply pN_ | apply pD_ | refine bs_ ?_ GE109.out | refine bs_ ?_ GE110.out) | exact HB.out)⟩⟩
                          · rw [if_neg c41] at H
                            have c41b0 : ((rd x6_25 x50_3) == (rd x5_25 x50_3)) = false := beq_eq_false_iff_ne.mpr c41
                            have c41b1 : ((rd x6_25 x50_3) != (rd x5_25 x50_3)) = true := bne_iff_ne.mpr c41
                            by_cases c42 : (l1_1.length : Int) > (l0_1.length : Int)
                            · rw [if_pos c42] at H
                              have c42b0 : decide ((l0_1.length : Int) < (l1_1.length : Int)) = true := decide_eq_true c42
                              have c42b1 : decide (l0_1.length < l1_1.length) = true := decide_eq_true (Int.ofNat_lt.mp c42)
                              have c42b2 : decide ((l1_1.length : Int) ≤ (l0_1.length : Int)) = false := decide_eq_false (by omega)
                              have c42b3 : decide ((l1_1.length : Int) < (l0_1.length : Int)) = false := decide_eq_false (by omega)
                              have c42b4 : decide ((l0_1.length : Int) ≤ (l1_1.length : Int)) = true := decide_eq_true (by omega)
                              clear c42
                              by_cases c43 : x50_3 = (x6_25.length : Int)
                              · rw [if_pos c43] at H
                                have c43b0 : (x50_3 == (x6_25.length : Int)) = true := beq_iff_eq.mpr c43
                                have c43b1 : (x50_3 != (x6_25.length : Int)) = false := bne_eq_false_iff_eq.mpr c43
                                clear c43
                                have c44b0 := eq_true (of_decide_eq_true (by first | (with_reducible assumption) | assumption) : 0 ≤ x50_3)
                                obtain ⟨y115, hy115⟩ : ∃ y_ : List Int, y_ = (x6_25.drop (x50_3 : Int).toNat) := ⟨_, rfl⟩
                                replace H : (if 0 ≤ (wrap64 (x50_3 + 1)) then (if (wrap64 (x50_3 + 1)) ≤ (x5_25.length : Int) then ((slices_Equal_int_int.f k3 y115 (x5_25.drop ((wrap64 (x50_3 + 1)) : Int).toNat)).bind fun t125 => (some t125)) else (none)) else (none)) = some r := by first | (rw [hy115]; with_reducible exact H) | (have H2_ := (Option.bind_some _ _).symm.trans H; rw [hy115]; with_reducible exact H2_) | (have H2_ := (Option.bind_some _ _).symm.trans H; with_reducible exact H2_) | with_reducible exact H | (rw [hy115]; exact H) | exact H
                                have Ny115 := A_ hy115
                                clear hy115
                                obtain ⟨ji45, hji45⟩ : ∃ j_ : Int, (wrap64 (x50_3 + 1)) = j_ := ⟨_, rfl⟩
                                replace H : (if 0 ≤ (ji45) then (if (ji45) ≤ (x5_25.length : Int) then ((slices_Equal_int_int.f k3 y115 (x5_25.drop ((ji45) : Int).toNat)).bind fun t125 => (some t125)) else (none)) else (none)) = some r := by first | (rw [hji45] at H; exact H) | (simp only [hji45] at H ⊢; exact H)
                                have hji45w : (IntKind.i64.wrap (x50_3 + 1)) = ji45 := (i64_w _).trans hji45
                                by_cases c46 : 0 ≤ (ji45)
                                · rw [if_pos c46] at H
                                  have c46b0 := eq_true c46
                                  have c46b1 : decide (0 ≤ (ji45)) = true := decide_eq_true c46
                                  clear c46
                                  by_cases c47 : (ji45) ≤ (x5_25.length : Int)
                                  · rw [if_pos c47] at H
                                    have c47b0 := eq_true c47
                                    have c47b1 : decide ((ji45) ≤ (x5_25.length : Int)) = true := decide_eq_true c47
                                    clear c47
                                    obtain ⟨y120, hy120⟩ : ∃ y_ : List Int, y_ = (x5_25.drop ((ji45) : Int).toNat) := ⟨_, rfl⟩
                                    replace H : ((slices_Equal_int_int.f k3 y115 y120).bind fun t125 => (some t125)) = some r := by first | (rw [hy120]; with_reducible exact H) | (have H2_ := (Option.bind_some _ _).symm.trans H; rw [hy120]; with_reducible exact H2_) | (have H2_ := (Option.bind_some _ _).symm.trans H; with_reducible exact H2_) | with_reducible exact H | (rw [hy120]; exact H) | exact H
                                    have Ny120 := A_ hy120
                                    clear hy120
                                    replace H := Option.bind_eq_some_iff.mp H
                                    obtain ⟨t125, A480, H⟩ := H
                                    replace H : (some t125) = some r := H
                                    have A48 := A_ A480
                                    clear A480
                                    obtain rfl := Option.some.inj H
                                    have p113 : 0 ≤ (x50_3 : Int) := of_decide_eq_true (by first | (with_reducible assumption) | assumption)
                                    have q113 : x50_3 < (x6_25.length : Int) := of_decide_eq_true (by first | (with_reducible assumption) | assumption)
                                    obtain ⟨ad113, e113, hx113_0⟩ := Kd.at_int (Kd.V_reads' HO_6.out).2.2 x50_3 p113 q113
                                    cases e113
                                    replace p113 := eq_true p113
                                    replace q113 := eq_true q113
                                    have p114 : 0 ≤ (x50_3 : Int) := of_decide_eq_true (by first | (with_reducible assumption) | assumption)
                                    have q114 : x50_3 < (x5_25.length : Int) := of_decide_eq_true (by first | (with_reducible assumption) | assumption)
                                    obtain ⟨ad114, e114, hx114_0⟩ := Kd.at_int (Kd.V_reads' HO_5.out).2.2 x50_3 p114 q114
                                    cases e114
                                    replace p114 := eq_true p114
                                    replace q114 := eq_true q114
                                    have hnb49 := NB110_109.out
                                    have hnc49 := NB109_110.out
                                    have hcz50_0 : wr.cell? ⟨gb110, 0, none⟩ = some (.int .i64 a1_0) := (bc_ BK110.out 0).trans rfl
                                    have hcz50_1 : wr.cell? ⟨gb110, 1, none⟩ = some (.slice A1_1 l1_1.length c1_1) := (bc_ BK110.out 1).trans rfl
                                    have hfz50_0 := blk_frozen BK110.out 0
                                    have hfz50_1 := blk_frozen BK110.out 1
                                    have hcz51_0 : wr.cell? ⟨gb109, 0, none⟩ = some (.int .i64 a0_0) := (bc_ BK109.out 0).trans rfl
                                    have hcz51_1 : wr.cell? ⟨gb109, 1, none⟩ = some (.slice A0_1 l0_1.length c0_1) := (bc_ BK109.out 1).trans rfl
                                    have hfz51_0 := blk_frozen BK109.out 0
                                    have hfz51_1 := blk_frozen BK109.out 1
                                    have q52 : (x50_3 : Int) ≤ ((x6_25.length : Int) : Int) := of_decide_eq_true (by first | (with_reducible assumption) | assumption)
                                    obtain ⟨i052, hi052, _, hsz52, _⟩ := info_parts info3
                                    have hroom52 : x6_25.length ≤ co36 := (Kd.V_reads' HO_6.out).2.1
                                    have hC52 : Kd.F (Kd.int .i64) _ _ (some ad113) x6_25.length x6_25 := (Kd.V_at (base := w.heap.size) HO_6.out).2.2
                                    have q052 : (0 : Int) ≤ (x50_3 : Int) := of_decide_eq_true (by first | (with_reducible assumption) | assumption)
                                    have hcut52 := cut_from (P := Try.prog) 30 3 .i64 Try.underlying30 hi052 1 hsz52 (some ad113) x6_25.length co36 x50_3 q052 q52
                                    have hr52 := Kd.F_cut (m := (x50_3 : Int).toNat) (c := co36) hC52 (by omega) hroom52
                                    obtain ⟨A52, hA52⟩ : ∃ A1, A1 = (if co36 = (x50_3 : Int).toNat then (some ad113) else ((some ad113) : Option Addr).map (·.add ((x50_3 : Int).toNat * 1))) := ⟨_, rfl⟩
                                    obtain ⟨c52, hc52⟩ : ∃ c1, c1 = co36 - (x50_3 : Int).toNat := ⟨_, rfl⟩
                                    have hy52 : y115.length = x6_25.length - (x50_3 : Int).toNat := (by rw [Ny115.out, List.length_drop] <;> omega)
                                    rw [show (x6_25).drop (x50_3 : Int).toNat = y115 from Ny115.out.symm] at hr52
                                    replace hr52 : Kd.F (Kd.int .i64) _ _ A52 y115.length y115 := (by rw [hA52]; exact hr52)
                                    rw [← hy52, ← hA52, ← hc52] at hcut52
                                    have HO119 := A_ (show Kd.V (Kd.int .i64) 3 _ w.heap.size _ (.slice A52 y115.length c52) y115 from Kd.V_mk (by rw [hy52, hc52]; exact Nat.sub_le_sub_right hroom52 _) hr52)
                                    have HC119 := A_ (show y115.length ≤ c52 from by rw [hy52, hc52]; exact Nat.sub_le_sub_right hroom52 _)
                                    clear hr52 hC52 hroom52 hi052 hsz52 hc52
                                    have KY52 := A_ hy52
                                    have KA52 := A_ hA52
                                    clear hy52 hA52
                                    replace q52 := eq_true q52
                                    have q53 : ((ji45) : Int) ≤ ((x5_25.length : Int) : Int) := of_decide_eq_true (by first | (with_reducible assumption) | assumption)
                                    obtain ⟨i053, hi053, _, hsz53, _⟩ := info_parts info3
                                    have hroom53 : x5_25.length ≤ co35 := (Kd.V_reads' HO_5.out).2.1
                                    have hC53 : Kd.F (Kd.int .i64) _ _ (some ad114) x5_25.length x5_25 := (Kd.V_at (base := w.heap.size) HO_5.out).2.2
                                    have q053 : (0 : Int) ≤ ((ji45) : Int) := of_decide_eq_true (by first | (with_reducible assumption) | assumption)
                                    have hcut53 := cut_from (P := Try.prog) 30 3 .i64 Try.underlying30 hi053 1 hsz53 (some ad114) x5_25.length co35 (ji45) q053 q53
                                    have hr53 := Kd.F_cut (m := ((ji45) : Int).toNat) (c := co35) hC53 (by omega) hroom53
                                    obtain ⟨A53, hA53⟩ : ∃ A1, A1 = (if co35 = ((ji45) : Int).toNat then (some ad114) else ((some ad114) : Option Addr).map (·.add (((ji45) : Int).toNat * 1))) := ⟨_, rfl⟩
                                    obtain ⟨c53, hc53⟩ : ∃ c1, c1 = co35 - ((ji45) : Int).toNat := ⟨_, rfl⟩
                                    have hy53 : y120.length = x5_25.length - ((ji45) : Int).toNat := (by rw [Ny120.out, List.length_drop] <;> omega)
                                    rw [show (x5_25).drop ((ji45) : Int).toNat = y120 from Ny120.out.symm] at hr53
                                    replace hr53 : Kd.F (Kd.int .i64) _ _ A53 y120.length y120 := (by rw [hA53]; exact hr53)
                                    rw [← hy53, ← hA53, ← hc53] at hcut53
                                    have HO124 := A_ (show Kd.V (Kd.int .i64) 3 _ w.heap.size _ (.slice A53 y120.length c53) y120 from Kd.V_mk (by rw [hy53, hc53]; exact Nat.sub_le_sub_right hroom53 _) hr53)
                                    have HC124 := A_ (show y120.length ≤ c53 from by rw [hy53, hc53]; exact Nat.sub_le_sub_right hroom53 _)
                                    clear hr53 hC53 hroom53 hi053 hsz53 hc53
                                    have KY53 := A_ hy53
                                    have KA53 := A_ hA53
                                    clear hy53 hA53
                                    replace q53 := eq_true q53
                                    go_wp2_with (first | (go_at_call 53; (with_reducible refine (slices_Equal_int_int.calls k3 _ _ y115 _ _ y120 t125 _ ?side1 ?side2 ?side3 ?side4 A48.out).mono ?_); (case side1 => repeat (first | exact (Kd.V_reads' HO119.out).2.2 | (with_reducible refine Kd.C_alloc ?_ _) | (with_reducible refine Kd.C_drewN ?_ _) | (with_reducible refine Kd.C_drew ?_))); (case side2 => exact (Kd.V_reads' HO119.out).2.1); (case side3 => repeat (first | exact (Kd.V_reads' HO124.out).2.2 | (with_reducible refine Kd.C_alloc ?_ _) | (with_reducible refine Kd.C_drewN ?_ _) | (with_reducible refine Kd.C_drew ?_))); (case side4 => exact (Kd.V_reads' HO124.out).2.1); rintro e w' ⟨rfl, ⟨nd, rfl⟩⟩; (try first | exact ⟨rfl, _, World.drewN_drewN _ _ _⟩ | exact ⟨rfl, _, Eq.trans (World.drewN_drewN _ _ _) (congrArg (World.drewN _) (Nat.add_assoc _ _ _))⟩)))
                                    repeat (go_quiet (first | (go_at_call 53; (with_reducible refine (slices_Equal_int_int.calls k3 _ _ y115 _ _ y120 t125 _ ?side1 ?side2 ?side3 ?side4 A48.out).mono ?_); (case side1 => repeat (first | exact (Kd.V_reads' HO119.out).2.2 | (with_reducible refine Kd.C_alloc ?_ _) | (with_reducible refine Kd.C_drewN ?_ _) | (with_reducible refine Kd.C_drew ?_))); (case side2 => exact (Kd.V_reads' HO119.out).2.1); (case side3 => repeat (first | exact (Kd.V_reads' HO124.out).2.2 | (with_reducible refine Kd.C_alloc ?_ _) | (with_reducible refine Kd.C_drewN ?_ _) | (with_reducible refine Kd.C_drew ?_))); (case side4 => exact (Kd.V_reads' HO124.out).2.1); rintro e w' ⟨rfl, ⟨nd, rfl⟩⟩; (try first | exact ⟨rfl, _, World.drewN_drewN _ _ _⟩ | exact ⟨rfl, _, Eq.trans (World.drewN_drewN _ _ _) (congrArg (World.drewN _) (Nat.add_assoc _ _ _))⟩))); try go_wp2_with (first | (go_at_call 53; (with_reducible refine (slices_Equal_int_int.calls k3 _ _ y115 _ _ y120 t125 _ ?side1 ?side2 ?side3 ?side4 A48.out).mono ?_); (case side1 => repeat (first | exact (Kd.V_reads' HO119.out).2.2 | (with_reducible refine Kd.C_alloc ?_ _) | (with_reducible refine Kd.C_drewN ?_ _) | (with_reducible refine Kd.C_drew ?_))); (case side2 => exact (Kd.V_reads' HO119.out).2.1); (case side3 => repeat (first | exact (Kd.V_reads' HO124.out).2.2 | (with_reducible refine Kd.C_alloc ?_ _) | (with_reducible refine Kd.C_drewN ?_ _) | (with_reducible refine Kd.C_drew ?_))); (case side4 => exact (Kd.V_reads' HO124.out).2.1); rintro e w' ⟨rfl, ⟨nd, rfl⟩⟩; (try first | exact ⟨rfl, _, World.drewN_drewN _ _ _⟩ | exact ⟨rfl, _, Eq.trans (World.drewN_drewN _ _ _) (congrArg (World.drewN _) (Nat.add_assoc _ _ _))⟩))))
                                    go_ret
                                    exact ⟨by first | rfl | (simp [errW_none, errW_some] <;> rfl) | (simp only [← hji45]; first | rfl | (simp [errW_none, errW_some] <;> rfl)) | (simp [*, errW_none, errW_some] <;> rfl), by repeat (first | (with_reducible first | exact HB.out | apply pA_ | apply pN_ | apply pD_ | refine bs_ ?_ GE109.out | refine bs_ ?_ GE110.out) | exact HB.out)⟩
                                  · rw [if_neg c47] at H
                                    exact absurd H (by simp)
                                · rw [if_neg c46] at H
                                  exact absurd H (by simp)
                              · rw [if_neg c43] at H
                                have c43b0 : (x50_3 == (x6_25.length : Int)) = false := beq_eq_false_iff_ne.mpr c43
                                have c43b1 : (x50_3 != (x6_25.length : Int)) = true := bne_iff_ne.mpr c43
                                obtain rfl := Option.some.inj H
                                have p113 : 0 ≤ (x50_3 : Int) := of_decide_eq_true (by first | (with_reducible assumption) | assumption)
                                have q113 : x50_3 < (x6_25.length : Int) := of_decide_eq_true (by first | (with_reducible assumption) | assumption)
                                obtain ⟨ad113, e113, hx113_0⟩ := Kd.at_int (Kd.V_reads' HO_6.out).2.2 x50_3 p113 q113
                                cases e113
                                replace p113 := eq_true p113
                                replace q113 := eq_true q113
                                have p114 : 0 ≤ (x50_3 : Int) := of_decide_eq_true (by first | (with_reducible assumption) | assumption)
                                have q114 : x50_3 < (x5_25.length : Int) := of_decide_eq_true (by first | (with_reducible assumption) | assumption)
                                obtain ⟨ad114, e114, hx114_0⟩ := Kd.at_int (Kd.V_reads' HO_5.out).2.2 x50_3 p114 q114
                                cases e114
                                replace p114 := eq_true p114
                                replace q114 := eq_true q114
                                have hnb54 := NB110_109.out
                                have hnc54 := NB109_110.out
                                have hcz55_0 : wr.cell? ⟨gb110, 0, none⟩ = some (.int .i64 a1_0) := (bc_ BK110.out 0).trans rfl
                                have hcz55_1 : wr.cell? ⟨gb110, 1, none⟩ = some (.slice A1_1 l1_1.length c1_1) := (bc_ BK110.out 1).trans rfl
                                have hfz55_0 := blk_frozen BK110.out 0
                                have hfz55_1 := blk_frozen BK110.out 1
                                have hcz56_0 : wr.cell? ⟨gb109, 0, none⟩ = some (.int .i64 a0_0) := (bc_ BK109.out 0).trans rfl
                                have hcz56_1 : wr.cell? ⟨gb109, 1, none⟩ = some (.slice A0_1 l0_1.length c0_1) := (bc_ BK109.out 1).trans rfl
                                have hfz56_0 := blk_frozen BK109.out 0
                                have hfz56_1 := blk_frozen BK109.out 1
                                go_wp2
                                repeat (go_quiet (fail); try go_wp2)
                                go_ret
                                exact ⟨by first | rfl | (simp [errW_none, errW_some] <;> rfl) | (simp [*, errW_none, errW_some] <;> rfl), by repeat (first | (with_reducible first | exact HB.out | apply pA_ | apply pN_ | apply pD_ | refine bs_ ?_ GE109.out | refine bs_ ?_ GE110.out) | exact HB.out)⟩
                            · rw [if_neg c42] at H
                              have c42b0 : decide ((l0_1.length : Int) < (l1_1.length : Int)) = false := decide_eq_false c42
                              have c42b1 : decide (l0_1.length < l1_1.length) = false := decide_eq_false (fun h => c42 (Int.ofNat_lt.mpr h))
                              have c42b2 : decide ((l1_1.length : Int) ≤ (l0_1.length : Int)) = true := decide_eq_true (by omega)
                              clear c42
                              have c57b0 := eq_true (of_decide_eq_true (by first | (with_reducible assumption) | assumption) : 0 ≤ x50_3)
                              obtain ⟨y126, hy126⟩ : ∃ y_ : List Int, y_ = (x6_25.drop (x50_3 : Int).toNat) := ⟨_, rfl⟩
                              replace H : (if 0 ≤ (wrap64 (x50_3 + 1)) then (if (wrap64 (x50_3 + 1)) ≤ (x5_25.length : Int) then ((slices_Equal_int_int.f k3 y126 (x5_25.drop ((wrap64 (x50_3 + 1)) : Int).toNat)).bind fun t136 => (some t136)) else (none)) else (none)) = some r := by first | (rw [hy126]; with_reducible exact H) | (have H2_ := (Option.bind_some _ _).symm.trans H; rw [hy126]; with_reducible exact H2_) | (have H2_ := (Option.bind_some _ _).symm.trans H; with_reducible exact H2_) | with_reducible exact H | (rw [hy126]; exact H) | exact H
                              have Ny126 := A_ hy126
                              clear hy126
                              obtain ⟨ji58, hji58⟩ : ∃ j_ : Int, (wrap64 (x50_3 + 1)) = j_ := ⟨_, rfl⟩
                              replace H : (if 0 ≤ (ji58) then (if (ji58) ≤ (x5_25.length : Int) then ((slices_Equal_int_int.f k3 y126 (x5_25.drop ((ji58) : Int).toNat)).bind fun t136 => (some t136)) else (none)) else (none)) = some r := by first | (rw [hji58] at H; exact H) | (simp only [hji58] at H ⊢; exact H)
                              have hji58w : (IntKind.i64.wrap (x50_3 + 1)) = ji58 := (i64_w _).trans hji58
                              by_cases c59 : 0 ≤ (ji58)
                              · rw [if_pos c59] at H
                                have c59b0 := eq_true c59
                                have c59b1 : decide (0 ≤ (ji58)) = true := decide_eq_true c59
                                clear c59
                                by_cases c60 : (ji58) ≤ (x5_25.length : Int)
                                · rw [if_pos c60] at H
                                  have c60b0 := eq_true c60
                                  have c60b1 : decide ((ji58) ≤ (x5_25.length : Int)) = true := decide_eq_true c60
                                  clear c60
                                  obtain ⟨y131, hy131⟩ : ∃ y_ : List Int, y_ = (x5_25.drop ((ji58) : Int).toNat) := ⟨_, rfl⟩
                                  replace H : ((slices_Equal_int_int.f k3 y126 y131).bind fun t136 => (some t136)) = some r := by first | (rw [hy131]; with_reducible exact H) | (have H2_ := (Option.bind_some _ _).symm.trans H; rw [hy131]; with_reducible exact H2_) | (have H2_ := (Option.bind_some _ _).symm.trans H; with_reducible exact H2_) | with_reducible exact H | (rw [hy131]; exact H) | exact H
                                  have Ny131 := A_ hy131
                                  clear hy131
                                  replace H := Option.bind_eq_some_iff.mp H
                                  obtain ⟨t136, A610, H⟩ := H
                                  replace H : (some t136) = some r := H
                                  have A61 := A_ A610
                                  clear A610
                                  obtain rfl := Option.some.inj H
                                  have p113 : 0 ≤ (x50_3 : Int) := of_decide_eq_true (by first | (with_reducible assumption) | assumption)
                                  have q113 : x50_3 < (x6_25.length : Int) := of_decide_eq_true (by first | (with_reducible assumption) | assumption)
                                  obtain ⟨ad113, e113, hx113_0⟩ := Kd.at_int (Kd.V_reads' HO_6.out).2.2 x50_3 p113 q113
                                  cases e113
                                  replace p113 := eq_true p113
                                  replace q113 := eq_true q113
                                  have p114 : 0 ≤ (x50_3 : Int) := of_decide_eq_true (by first | (with_reducible assumption) | assumption)
                                  have q114 : x50_3 < (x5_25.length : Int) := of_decide_eq_true (by first | (with_reducible assumption) | assumption)
                                  obtain ⟨ad114, e114, hx114_0⟩ := Kd.at_int (Kd.V_reads' HO_5.out).2.2 x50_3 p114 q114
                                  cases e114
                                  replace p114 := eq_true p114
                                  replace q114 := eq_true q114
                                  have hnb62 := NB110_109.out
                                  have hnc62 := NB109_110.out
                                  have hcz63_0 : wr.cell? ⟨gb110, 0, none⟩ = some (.int .i64 a1_0) := (bc_ BK110.out 0).trans rfl
                                  have hcz63_1 : wr.cell? ⟨gb110, 1, none⟩ = some (.slice A1_1 l1_1.length c1_1) := (bc_ BK110.out 1).trans rfl
                                  have hfz63_0 := blk_frozen BK110.out 0
                                  have hfz63_1 := blk_frozen BK110.out 1
                                  have hcz64_0 : wr.cell? ⟨gb109, 0, none⟩ = some (.int .i64 a0_0) := (bc_ BK109.out 0).trans rfl
                                  have hcz64_1 : wr.cell? ⟨gb109, 1, none⟩ = some (.slice A0_1 l0_1.length c0_1) := (bc_ BK109.out 1).trans rfl
                                  have hfz64_0 := blk_frozen BK109.out 0
                                  have hfz64_1 := blk_frozen BK109.out 1
                                  have q65 : (x50_3 : Int) ≤ ((x6_25.length : Int) : Int) := of_decide_eq_true (by first | (with_reducible assumption) | assumption)
                                  obtain ⟨i065, hi065, _, hsz65, _⟩ := info_parts info3
                                  have hroom65 : x6_25.length ≤ co36 := (Kd.V_reads' HO_6.out).2.1
                                  have hC65 : Kd.F (Kd.int .i64) _ _ (some ad113) x6_25.length x6_25 := (Kd.V_at (base := w.heap.size) HO_6.out).2.2
                                  have q065 : (0 : Int) ≤ (x50_3 : Int) := of_decide_eq_true (by first | (with_reducible assumption) | assumption)
                                  have hcut65 := cut_from (P := Try.prog) 30 3 .i64 Try.underlying30 hi065 1 hsz65 (some ad113) x6_25.length co36 x50_3 q065 q65
                                  have hr65 := Kd.F_cut (m := (x50_3 : Int).toNat) (c := co36) hC65 (by omega) hroom65
                                  obtain ⟨A65, hA65⟩ : ∃ A1, A1 = (if co36 = (x50_3 : Int).toNat then (some ad113) else ((some ad113) : Option Addr).map (·.add ((x50_3 : Int).toNat * 1))) := ⟨_, rfl⟩
                                  obtain ⟨c65, hc65⟩ : ∃ c1, c1 = co36 - (x50_3 : Int).toNat := ⟨_, rfl⟩
                                  have hy65 : y126.length = x6_25.length - (x50_3 : Int).toNat := (by rw [Ny126.out, List.length_drop] <;> omega)
                                  rw [show (x6_25).drop (x50_3 : Int).toNat = y126 from Ny126.out.symm] at hr65
                                  replace hr65 : Kd.F (Kd.int .i64) _ _ A65 y126.length y126 := (by rw [hA65]; exact hr65)
                                  rw [← hy65, ← hA65, ← hc65] at hcut65
                                  have HO130 := A_ (show Kd.V (Kd.int .i64) 3 _ w.heap.size _ (.slice A65 y126.length c65) y126 from Kd.V_mk (by rw [hy65, hc65]; exact Nat.sub_le_sub_right hroom65 _) hr65)
                                  have HC130 := A_ (show y126.length ≤ c65 from by rw [hy65, hc65]; exact Nat.sub_le_sub_right hroom65 _)
                                  clear hr65 hC65 hroom65 hi065 hsz65 hc65
                                  have KY65 := A_ hy65
                                  have KA65 := A_ hA65
                                  clear hy65 hA65
                                  replace q65 := eq_true q65
                                  have q66 : ((ji58) : Int) ≤ ((x5_25.length : Int) : Int) := of_decide_eq_true (by first | (with_reducible assumption) | assumption)
                                  obtain ⟨i066, hi066, _, hsz66, _⟩ := info_parts info3
                                  have hroom66 : x5_25.length ≤ co35 := (Kd.V_reads' HO_5.out).2.1
                                  have hC66 : Kd.F (Kd.int .i64) _ _ (some ad114) x5_25.length x5_25 := (Kd.V_at (base := w.heap.size) HO_5.out).2.2
                                  have q066 : (0 : Int) ≤ ((ji58) : Int) := of_decide_eq_true (by first | (with_reducible assumption) | assumption)
                                  have hcut66 := cut_from (P := Try.prog) 30 3 .i64 Try.underlying30 hi066 1 hsz66 (some ad114) x5_25.length co35 (ji58) q066 q66
                                  have hr66 := Kd.F_cut (m := ((ji58) : Int).toNat) (c := co35) hC66 (by omega) hroom66
                                  obtain ⟨A66, hA66⟩ : ∃ A1, A1 = (if co35 = ((ji58) : Int).toNat then (some ad114) else ((some ad114) : Option Addr).map (·.add (((ji58) : Int).toNat * 1))) := ⟨_, rfl⟩
                                  obtain ⟨c66, hc66⟩ : ∃ c1, c1 = co35 - ((ji58) : Int).toNat := ⟨_, rfl⟩
                                  have hy66 : y131.length = x5_25.length - ((ji58) : Int).toNat := (by rw [Ny131.out, List.length_drop] <;> omega)
                                  rw [show (x5_25).drop ((ji58) : Int).toNat = y131 from Ny131.out.symm] at hr66
                                  replace hr66 : Kd.F (Kd.int .i64) _ _ A66 y131.length y131 := (by rw [hA66]; exact hr66)
                                  rw [← hy66, ← hA66, ← hc66] at hcut66
                                  have HO135 := A_ (show Kd.V (Kd.int .i64) 3 _ w.heap.size _ (.slice A66 y131.length c66) y131 from Kd.V_mk (by rw [hy66, hc66]; exact Nat.sub_le_sub_right hroom66 _) hr66)
                                  have HC135 := A_ (show y131.length ≤ c66 from by rw [hy66, hc66]; exact Nat.sub_le_sub_right hroom66 _)
                                  clear hr66 hC66 hroom66 hi066 hsz66 hc66
                                  have KY66 := A_ hy66
                                  have KA66 := A_ hA66
                                  clear hy66 hA66
                                  replace q66 := eq_true q66
                                  go_wp2_with (first | (go_at_call 53; (with_reducible refine (slices_Equal_int_int.calls k3 _ _ y126 _ _ y131 t136 _ ?side1 ?side2 ?side3 ?side4 A61.out).mono ?_); (case side1 => repeat (first | exact (Kd.V_reads' HO130.out).2.2 | (with_reducible refine Kd.C_alloc ?_ _) | (with_reducible refine Kd.C_drewN ?_ _) | (with_reducible refine Kd.C_drew ?_))); (case side2 => exact (Kd.V_reads' HO130.out).2.1); (case side3 => repeat (first | exact (Kd.V_reads' HO135.out).2.2 | (with_reducible refine Kd.C_alloc ?_ _) | (with_reducible refine Kd.C_drewN ?_ _) | (with_reducible refine Kd.C_drew ?_))); (case side4 => exact (Kd.V_reads' HO135.out).2.1); rintro e w' ⟨rfl, ⟨nd, rfl⟩⟩; (try first | exact ⟨rfl, _, World.drewN_drewN _ _ _⟩ | exact ⟨rfl, _, Eq.trans (World.drewN_drewN _ _ _) (congrArg (World.drewN _) (Nat.add_assoc _ _ _))⟩)))
                                  repeat (go_quiet (first | (go_at_call 53; (with_reducible refine (slices_Equal_int_int.calls k3 _ _ y126 _ _ y131 t136 _ ?side1 ?side2 ?side3 ?side4 A61.out).mono ?_); (case side1 => repeat (first | exact (Kd.V_reads' HO130.out).2.2 | (with_reducible refine Kd.C_alloc ?_ _) | (with_reducible refine Kd.C_drewN ?_ _) | (with_reducible refine Kd.C_drew ?_))); (case side2 => exact (Kd.V_reads' HO130.out).2.1); (case side3 => repeat (first | exact (Kd.V_reads' HO135.out).2.2 | (with_reducible refine Kd.C_alloc ?_ _) | (with_reducible refine Kd.C_drewN ?_ _) | (with_reducible refine Kd.C_drew ?_))); (case side4 => exact (Kd.V_reads' HO135.out).2.1); rintro e w' ⟨rfl, ⟨nd, rfl⟩⟩; (try first | exact ⟨rfl, _, World.drewN_drewN _ _ _⟩ | exact ⟨rfl, _, Eq.trans (World.drewN_drewN _ _ _) (congrArg (World.drewN _) (Nat.add_assoc _ _ _))⟩))); try go_wp2_with (first | (go_at_call 53; (with_reducible refine (slices_Equal_int_int.calls k3 _ _ y126 _ _ y131 t136 _ ?side1 ?side2 ?side3 ?side4 A61.out).mono ?_); (case side1 => repeat (first | exact (Kd.V_reads' HO130.out).2.2 | (with_reducible refine Kd.C_alloc ?_ _) | (with_reducible refine Kd.C_drewN ?_ _) | (with_reducible refine Kd.C_drew ?_))); (case side2 => exact (Kd.V_reads' HO130.out).2.1); (case side3 => repeat (first | exact (Kd.V_reads' HO135.out).2.2 | (with_reducible refine Kd.C_alloc ?_ _) | (with_reducible refine Kd.C_drewN ?_ _) | (with_reducible refine Kd.C_drew ?_))); (case side4 => exact (Kd.V_reads' HO135.out).2.1); rintro e w' ⟨rfl, ⟨nd, rfl⟩⟩; (try first | exact ⟨rfl, _, World.drewN_drewN _ _ _⟩ | exact ⟨rfl, _, Eq.trans (World.drewN_drewN _ _ _) (congrArg (World.drewN _) (Nat.add_assoc _ _ _))⟩))))
                                  go_ret
                                  exact ⟨by first | rfl | (simp [errW_none, errW_some] <;> rfl) | (simp only [← hji58]; first | rfl | (simp [errW_none, errW_some] <;> rfl)) | (simp [*, errW_none, errW_some] <;> rfl), by repeat (first | (with_reducible first | exact HB.out | apply pA_ | apply pN_ | apply pD_ | refine bs_ ?_ GE109.out | refine bs_ ?_ GE110.out) | exact HB.out)⟩
                                · rw [if_neg c60] at H
                                  exact absurd H (by simp)
                              · rw [if_neg c59] at H
                                exact absurd H (by simp)
                        · rw [if_neg c40] at H
                          exact absurd H (by simp)
                      · rw [if_neg c39] at H
                        exact absurd H (by simp)
                    · rw [if_neg c38] at H
                      exact absurd H (by simp)
                  · rw [if_neg c37] at H
                    have c37b0 : decide (x50_3 < (x6_25.length : Int)) = false := decide_eq_false c37
                    have c37b1 : decide ((x6_25.length : Int) ≤ x50_3) = true := decide_eq_true (by omega)
                    clear c37
                    by_cases c67 : (l1_1.length : Int) > (l0_1.length : Int)
                    · rw [if_pos c67] at H
                      have c67b0 : decide ((l0_1.length : Int) < (l1_1.length : Int)) = true := decide_eq_true c67
                      have c67b1 : decide (l0_1.length < l1_1.length) = true := decide_eq_true (Int.ofNat_lt.mp c67)
                      have c67b2 : decide ((l1_1.length : Int) ≤ (l0_1.length : Int)) = false := decide_eq_false (by omega)
                      have c67b3 : decide ((l1_1.length : Int) < (l0_1.length : Int)) = false := decide_eq_false (by omega)
                      have c67b4 : decide ((l0_1.length : Int) ≤ (l1_1.length : Int)) = true := decide_eq_true (by omega)
                      clear c67
                      by_cases c68 : x7_3 = (x6_25.length : Int)
                      · rw [if_pos c68] at H
                        have c68b0 : (x7_3 == (x6_25.length : Int)) = true := beq_iff_eq.mpr c68
                        have c68b1 : (x7_3 != (x6_25.length : Int)) = false := bne_eq_false_iff_eq.mpr c68
                        clear c68
                        by_cases c69 : 0 ≤ x7_3
                        · rw [if_pos c69] at H
                          have c69b0 := eq_true c69
                          have c69b1 : decide (0 ≤ x7_3) = true := decide_eq_true c69
                          clear c69
                          by_cases c70 : x7_3 ≤ (x6_25.length : Int)
                          · rw [if_pos c70] at H
                            have c70b0 := eq_true c70
                            have c70b1 : decide (x7_3 ≤ (x6_25.length : Int)) = true := decide_eq_true c70
                            clear c70
                            obtain ⟨y137, hy137⟩ : ∃ y_ : List Int, y_ = (x6_25.drop (x7_3 : Int).toNat) := ⟨_, rfl⟩
                            replace H : (if 0 ≤ (wrap64 (x7_3 + 1)) then (if (wrap64 (x7_3 + 1)) ≤ (x5_25.length : Int) then ((slices_Equal_int_int.f k3 y137 (x5_25.drop ((wrap64 (x7_3 + 1)) : Int).toNat)).bind fun t147 => (some t147)) else (none)) else (none)) = some r := by first | (rw [hy137]; with_reducible exact H) | (have H2_ := (Option.bind_some _ _).symm.trans H; rw [hy137]; with_reducible exact H2_) | (have H2_ := (Option.bind_some _ _).symm.trans H; with_reducible exact H2_) | with_reducible exact H | (rw [hy137]; exact H) | exact H
                            have Ny137 := A_ hy137
                            clear hy137
                            obtain ⟨ji71, hji71⟩ : ∃ j_ : Int, (wrap64 (x7_3 + 1)) = j_ := ⟨_, rfl⟩
                            replace H : (if 0 ≤ (ji71) then (if (ji71) ≤ (x5_25.length : Int) then ((slices_Equal_int_int.f k3 y137 (x5_25.drop ((ji71) : Int).toNat)).bind fun t147 => (some t147)) else (none)) else (none)) = some r := by first | (rw [hji71] at H; exact H) | (simp only [hji71] at H ⊢; exact H)
                            have hji71w : (IntKind.i64.wrap (x7_3 + 1)) = ji71 := (i64_w _).trans hji71
                            by_cases c72 : 0 ≤ (ji71)
                            · rw [if_pos c72] at H
                              have c72b0 := eq_true c72
                              have c72b1 : decide (0 ≤ (ji71)) = true := decide_eq_true c72
                              clear c72
                              by_cases c73 : (ji71) ≤ (x5_25.length : Int)
                              · rw [if_pos c73] at H
                                have c73b0 := eq_true c73
                                have c73b1 : decide ((ji71) ≤ (x5_25.length : Int)) = true := decide_eq_true c73
                                clear c73
                                obtain ⟨y142, hy142⟩ : ∃ y_ : List Int, y_ = (x5_25.drop ((ji71) : Int).toNat) := ⟨_, rfl⟩
                                replace H : ((slices_Equal_int_int.f k3 y137 y142).bind fun t147 => (some t147)) = some r := by first | (rw [hy142]; with_reducible exact H) | (have H2_ := (Option.bind_some _ _).symm.trans H; rw [hy142]; with_reducible exact H2_) | (have H2_ := (Option.bind_some _ _).symm.trans H; with_reducible exact H2_) | with_reducible exact H | (rw [hy142]; exact H) | exact H
                                have Ny142 := A_ hy142
                                clear hy142
                                replace H := Option.bind_eq_some_iff.mp H
                                obtain ⟨t147, A740, H⟩ := H
                                replace H : (some t147) = some r := H
                                have A74 := A_ A740
                                clear A740
                                obtain rfl := Option.some.inj H
                                have hnb75 := NB110_109.out
                                have hnc75 := NB109_110.out
                                have hcz76_0 : wr.cell? ⟨gb110, 0, none⟩ = some (.int .i64 a1_0) := (bc_ BK110.out 0).trans rfl
                                have hcz76_1 : wr.cell? ⟨gb110, 1, none⟩ = some (.slice A1_1 l1_1.length c1_1) := (bc_ BK110.out 1).trans rfl
                                have hfz76_0 := blk_frozen BK110.out 0
                                have hfz76_1 := blk_frozen BK110.out 1
                                have hcz77_0 : wr.cell? ⟨gb109, 0, none⟩ = some (.int .i64 a0_0) := (bc_ BK109.out 0).trans rfl
                                have hcz77_1 : wr.cell? ⟨gb109, 1, none⟩ = some (.slice A0_1 l0_1.length c0_1) := (bc_ BK109.out 1).trans rfl
                                have hfz77_0 := blk_frozen BK109.out 0
                                have hfz77_1 := blk_frozen BK109.out 1
                                have q78 : (x7_3 : Int) ≤ ((x6_25.length : Int) : Int) := of_decide_eq_true (by first | (with_reducible assumption) | assumption)
                                obtain ⟨i078, hi078, _, hsz78, _⟩ := info_parts info3
                                have hroom78 : x6_25.length ≤ co36 := (Kd.V_reads' HO_6.out).2.1
                                have hC78 : Kd.F (Kd.int .i64) _ _ Ao36 x6_25.length x6_25 := (Kd.V_at (base := w.heap.size) HO_6.out).2.2
                                have q078 : (0 : Int) ≤ (x7_3 : Int) := of_decide_eq_true (by first | (with_reducible assumption) | assumption)
                                have hcut78 := cut_from (P := Try.prog) 30 3 .i64 Try.underlying30 hi078 1 hsz78 Ao36 x6_25.length co36 x7_3 q078 q78
                                have hr78 := Kd.F_cut (m := (x7_3 : Int).toNat) (c := co36) hC78 (by omega) hroom78
                                obtain ⟨A78, hA78⟩ : ∃ A1, A1 = (if co36 = (x7_3 : Int).toNat then Ao36 else (Ao36 : Option Addr).map (·.add ((x7_3 : Int).toNat * 1))) := ⟨_, rfl⟩
                                obtain ⟨c78, hc78⟩ : ∃ c1, c1 = co36 - (x7_3 : Int).toNat := ⟨_, rfl⟩
                                have hy78 : y137.length = x6_25.length - (x7_3 : Int).toNat := (by rw [Ny137.out, List.length_drop] <;> omega)
                                rw [show (x6_25).drop (x7_3 : Int).toNat = y137 from Ny137.out.symm] at hr78
                                replace hr78 : Kd.F (Kd.int .i64) _ _ A78 y137.length y137 := (by rw [hA78]; exact hr78)
                                rw [← hy78, ← hA78, ← hc78] at hcut78
                                have HO141 := A_ (show Kd.V (Kd.int .i64) 3 _ w.heap.size _ (.slice A78 y137.length c78) y137 from Kd.V_mk (by rw [hy78, hc78]; exact Nat.sub_le_sub_right hroom78 _) hr78)
                                have HC141 := A_ (show y137.length ≤ c78 from by rw [hy78, hc78]; exact Nat.sub_le_sub_right hroom78 _)
                                clear hr78 hC78 hroom78 hi078 hsz78 hc78
                                have KY78 := A_ hy78
                                have KA78 := A_ hA78
                                clear hy78 hA78
                                replace q78 := eq_true q78
                                have q79 : ((ji71) : Int) ≤ ((x5_25.length : Int) : Int) := of_decide_eq_true (by first | (with_reducible assumption) | assumption)
                                obtain ⟨i079, hi079, _, hsz79, _⟩ := info_parts info3
                                have hroom79 : x5_25.length ≤ co35 := (Kd.V_reads' HO_5.out).2.1
                                have hC79 : Kd.F (Kd.int .i64) _ _ Ao35 x5_25.length x5_25 := (Kd.V_at (base := w.heap.size) HO_5.out).2.2
                                have q079 : (0 : Int) ≤ ((ji71) : Int) := of_decide_eq_true (by first | (with_reducible assumption) | assumption)
                                have hcut79 := cut_from (P := Try.prog) 30 3 .i64 Try.underlying30 hi079 1 hsz79 Ao35 x5_25.length co35 (ji71) q079 q79
                                have hr79 := Kd.F_cut (m := ((ji71) : Int).toNat) (c := co35) hC79 (by omega) hroom79
                                obtain ⟨A79, hA79⟩ : ∃ A1, A1 = (if co35 = ((ji71) : Int).toNat then Ao35 else (Ao35 : Option Addr).map (·.add (((ji71) : Int).toNat * 1))) := ⟨_, rfl⟩
                                obtain ⟨c79, hc79⟩ : ∃ c1, c1 = co35 - ((ji71) : Int).toNat := ⟨_, rfl⟩
                                have hy79 : y142.length = x5_25.length - ((ji71) : Int).toNat := (by rw [Ny142.out, List.length_drop] <;> omega)
                                rw [show (x5_25).drop ((ji71) : Int).toNat = y142 from Ny142.out.symm] at hr79
                                replace hr79 : Kd.F (Kd.int .i64) _ _ A79 y142.length y142 := (by rw [hA79]; exact hr79)
                                rw [← hy79, ← hA79, ← hc79] at hcut79
                                have HO146 := A_ (show Kd.V (Kd.int .i64) 3 _ w.heap.size _ (.slice A79 y142.length c79) y142 from Kd.V_mk (by rw [hy79, hc79]; exact Nat.sub_le_sub_right hroom79 _) hr79)
                                have HC146 := A_ (show y142.length ≤ c79 from by rw [hy79, hc79]; exact Nat.sub_le_sub_right hroom79 _)
                                clear hr79 hC79 hroom79 hi079 hsz79 hc79
                                have KY79 := A_ hy79
                                have KA79 := A_ hA79
                                clear hy79 hA79
                                replace q79 := eq_true q79
                                go_wp2_with (first | (go_at_call 53; (with_reducible refine (slices_Equal_int_int.calls k3 _ _ y137 _ _ y142 t147 _ ?side1 ?side2 ?side3 ?side4 A74.out).mono ?_); (case side1 => repeat (first | exact (Kd.V_reads' HO141.out).2.2 | (with_reducible refine Kd.C_alloc ?_ _) | (with_reducible refine Kd.C_drewN ?_ _) | (with_reducible refine Kd.C_drew ?_))); (case side2 => exact (Kd.V_reads' HO141.out).2.1); (case side3 => repeat (first | exact (Kd.V_reads' HO146.out).2.2 | (with_reducible refine Kd.C_alloc ?_ _) | (with_reducible refine Kd.C_drewN ?_ _) | (with_reducible refine Kd.C_drew ?_))); (case side4 => exact (Kd.V_reads' HO146.out).2.1); rintro e w' ⟨rfl, ⟨nd, rfl⟩⟩; (try first | exact ⟨rfl, _, World.drewN_drewN _ _ _⟩ | exact ⟨rfl, _, Eq.trans (World.drewN_drewN _ _ _) (congrArg (World.drewN _) (Nat.add_assoc _ _ _))⟩)))
                                repeat (go_quiet (first | (go_at_call 53; (with_reducible refine (slices_Equal_int_int.calls k3 _ _ y137 _ _ y142 t147 _ ?side1 ?side2 ?side3 ?side4 A74.out).mono ?_); (case side1 => repeat (first | exact (Kd.V_reads' HO141.out).2.2 | (with_reducible refine Kd.C_alloc ?_ _) | (with_reducible refine Kd.C_drewN ?_ _) | (with_reducible refine Kd.C_drew ?_))); (case side2 => exact (Kd.V_reads' HO141.out).2.1); (case side3 => repeat (first | exact (Kd.V_reads' HO146.out).2.2 | (with_reducible refine Kd.C_alloc ?_ _) | (with_reducible refine Kd.C_drewN ?_ _) | (with_reducible refine Kd.C_drew ?_))); (case side4 => exact (Kd.V_reads' HO146.out).2.1); rintro e w' ⟨rfl, ⟨nd, rfl⟩⟩; (try first | exact ⟨rfl, _, World.drewN_drewN _ _ _⟩ | exact ⟨rfl, _, Eq.trans (World.drewN_drewN _ _ _) (congrArg (World.drewN _) (Nat.add_assoc _ _ _))⟩))); try go_wp2_with (first | (go_at_call 53; (with_reducible refine (slices_Equal_int_int.calls k3 _ _ y137 _ _ y142 t147 _ ?side1 ?side2 ?side3 ?side4 A74.out).mono ?_); (case side1 => repeat (first | exact (Kd.V_reads' HO141.out).2.2 | (with_reducible refine Kd.C_alloc ?_ _) | (with_reducible refine Kd.C_drewN ?_ _) | (with_reducible refine Kd.C_drew ?_))); (case side2 => exact (Kd.V_reads' HO141.out).2.1); (case side3 => repeat (first | exact (Kd.V_reads' HO146.out).2.2 | (with_reducible refine Kd.C_alloc ?_ _) | (with_reducible refine Kd.C_drewN ?_ _) | (with_reducible refine Kd.C_drew ?_))); (case side4 => exact (Kd.V_reads' HO146.out).2.1); rintro e w' ⟨rfl, ⟨nd, rfl⟩⟩; (try first | exact ⟨rfl, _, World.drewN_drewN _ _ _⟩ | exact ⟨rfl, _, Eq.trans (World.drewN_drewN _ _ _) (congrArg (World.drewN _) (Nat.add_assoc _ _ _))⟩))))
                                go_ret
                                exact ⟨by first | rfl | (simp [errW_none, errW_some] <;> rfl) | (simp only [← hji71]; first | rfl | (simp [errW_none, errW_some] <;> rfl)) | (simp [*, errW_none, errW_some] <;> rfl), by repeat (first | (with_reducible first | exact HB.out | apply pA_ | apply pN_ | apply pD_ | refine bs_ ?_ GE109.out | refine bs_ ?_ GE110.out) | exact HB.out)⟩
                              · rw [if_neg c73] at H
                                exact absurd H (by simp)
                            · rw [if_neg c72] at H
                              exact absurd H (by simp)
                          · rw [if_neg c70] at H
                            exact absurd H (by simp)
                        · rw [if_neg c69] at H
                          exact absurd H (by simp)
                      · rw [if_neg c68] at H
                        have c68b0 : (x7_3 == (x6_25.length : Int)) = false := beq_eq_false_iff_ne.mpr c68
                        have c68b1 : (x7_3 != (x6_25.length : Int)) = true := bne_iff_ne.mpr c68
                        obtain rfl := Option.some.inj H
                        have hnb80 := NB110_109.out
                        have hnc80 := NB109_110.out
                        have hcz81_0 : wr.cell? ⟨gb110, 0, none⟩ = some (.int .i64 a1_0) := (bc_ BK110.out 0).trans rfl
                        have hcz81_1 : wr.cell? ⟨gb110, 1, none⟩ = some (.slice A1_1 l1_1.length c1_1) := (bc_ BK110.out 1).trans rfl
                        have hfz81_0 := blk_frozen BK110.out 0
                        have hfz81_1 := blk_frozen BK110.out 1
                        have hcz82_0 : wr.cell? ⟨gb109, 0, none⟩ = some (.int .i64 a0_0) := (bc_ BK109.out 0).trans rfl
                        have hcz82_1 : wr.cell? ⟨gb109, 1, none⟩ = some (.slice A0_1 l0_1.length c0_1) := (bc_ BK109.out 1).trans rfl
                        have hfz82_0 := blk_frozen BK109.out 0
                        have hfz82_1 := blk_frozen BK109.out 1
                        go_wp2
                        repeat (go_quiet (fail); try go_wp2)
                        go_ret
                        exact ⟨by first | rfl | (simp [errW_none, errW_some] <;> rfl) | (simp [*, errW_none, errW_some] <;> rfl), by repeat (first | (with_reducible first | exact HB.out | apply pA_ | apply pN_ | apply pD_ | refine bs_ ?_ GE109.out | refine bs_ ?_ GE110.out) | exact HB.out)⟩
                    · rw [if_neg c67] at H
                      have c67b0 : decide ((l0_1.length : Int) < (l1_1.length : Int)) = false := decide_eq_false c67
                      have c67b1 : decide (l0_1.length < l1_1.length) = false := decide_eq_false (fun h => c67 (Int.ofNat_lt.mpr h))
                      have c67b2 : decide ((l1_1.length : Int) ≤ (l0_1.length : Int)) = true := decide_eq_true (by omega)
                      clear c67
                      by_cases c83 : 0 ≤ x7_3
                      · rw [if_pos c83] at H
                        have c83b0 := eq_true c83
                        have c83b1 : decide (0 ≤ x7_3) = true := decide_eq_true c83
                        clear c83
                        by_cases c84 : x7_3 ≤ (x6_25.length : Int)
                        · rw [if_pos c84] at H
                          have c84b0 := eq_true c84
                          have c84b1 : decide (x7_3 ≤ (x6_25.length : Int)) = true := decide_eq_true c84
                          clear c84
                          obtain ⟨y148, hy148⟩ : ∃ y_ : List Int, y_ = (x6_25.drop (x7_3 : Int).toNat) := ⟨_, rfl⟩
                          replace H : (if 0 ≤ (wrap64 (x7_3 + 1)) then (if (wrap64 (x7_3 + 1)) ≤ (x5_25.length : Int) then ((slices_Equal_int_int.f k3 y148 (x5_25.drop ((wrap64 (x7_3 + 1)) : Int).toNat)).bind fun t158 => (some t158)) else (none)) else (none)) = some r := by first | (rw [hy148]; with_reducible exact H) | (have H2_ := (Option.bind_some _ _).symm.trans H; rw [hy148]; with_reducible exact H2_) | (have H2_ := (Option.bind_some _ _).symm.trans H; with_reducible exact H2_) | with_reducible exact H | (rw [hy148]; exact H) | exact H
                          have Ny148 := A_ hy148
                          clear hy148
                          obtain ⟨ji85, hji85⟩ : ∃ j_ : Int, (wrap64 (x7_3 + 1)) = j_ := ⟨_, rfl⟩
                          replace H : (if 0 ≤ (ji85) then (if (ji85) ≤ (x5_25.length : Int) then ((slices_Equal_int_int.f k3 y148 (x5_25.drop ((ji85) : Int).toNat)).bind fun t158 => (some t158)) else (none)) else (none)) = some r := by first | (rw [hji85] at H; exact H) | (simp only [hji85] at H ⊢; exact H)
                          have hji85w : (IntKind.i64.wrap (x7_3 + 1)) = ji85 := (i64_w _).trans hji85
                          by_cases c86 : 0 ≤ (ji85)
                          · rw [if_pos c86] at H
                            have c86b0 := eq_true c86
                            have c86b1 : decide (0 ≤ (ji85)) = true := decide_eq_true c86
                            clear c86
                            by_cases c87 : (ji85) ≤ (x5_25.length : Int)
                            · rw [if_pos c87] at H
                              have c87b0 := eq_true c87
                              have c87b1 : decide ((ji85) ≤ (x5_25.length : Int)) = true := decide_eq_true c87
                              clear c87
                              obtain ⟨y153, hy153⟩ : ∃ y_ : List Int, y_ = (x5_25.drop ((ji85) : Int).toNat) := ⟨_, rfl⟩
                              replace H : ((slices_Equal_int_int.f k3 y148 y153).bind fun t158 => (some t158)) = some r := by first | (rw [hy153]; with_reducible exact H) | (have H2_ := (Option.bind_some _ _).symm.trans H; rw [hy153]; with_reducible exact H2_) | (have H2_ := (Option.bind_some _ _).symm.trans H; with_reducible exact H2_) | with_reducible exact H | (rw [hy153]; exact H) | exact H
                              have Ny153 := A_ hy153
                              clear hy153
                              replace H := Option.bind_eq_some_iff.mp H
                              obtain ⟨t158, A880, H⟩ := H
                              replace H : (some t158) = some r := H
                              have A88 := A_ A880
                              clear A880
                              obtain rfl := Option.some.inj H
                              have hnb89 := NB110_109.out
                              have hnc89 := NB109_110.out
                              have hcz90_0 : wr.cell? ⟨gb110, 0, none⟩ = some (.int .i64 a1_0) := (bc_ BK110.out 0).trans rfl
                              have hcz90_1 : wr.cell? ⟨gb110, 1, none⟩ = some (.slice A1_1 l1_1.length c1_1) := (bc_ BK110.out 1).trans rfl
                              have hfz90_0 := blk_frozen BK110.out 0
                              have hfz90_1 := blk_frozen BK110.out 1
                              have hcz91_0 : wr.cell? ⟨gb109, 0, none⟩ = some (.int .i64 a0_0) := (bc_ BK109.out 0).trans rfl
                              have hcz91_1 : wr.cell? ⟨gb109, 1, none⟩ = some (.slice A0_1 l0_1.length c0_1) := (bc_ BK109.out 1).trans rfl
                              have hfz91_0 := blk_frozen BK109.out 0
                              have hfz91_1 := blk_frozen BK109.out 1
                              have q92 : (x7_3 : Int) ≤ ((x6_25.length : Int) : Int) := of_decide_eq_true (by first | (with_reducible assumption) | assumption)
                              obtain ⟨i092, hi092, _, hsz92, _⟩ := info_parts info3
                              have hroom92 : x6_25.length ≤ co36 := (Kd.V_reads' HO_6.out).2.1
                              have hC92 : Kd.F (Kd.int .i64) _ _ Ao36 x6_25.length x6_25 := (Kd.V_at (base := w.heap.size) HO_6.out).2.2
                              have q092 : (0 : Int) ≤ (x7_3 : Int) := of_decide_eq_true (by first | (with_reducible assumption) | assumption)
                              have hcut92 := cut_from (P := Try.prog) 30 3 .i64 Try.underlying30 hi092 1 hsz92 Ao36 x6_25.length co36 x7_3 q092 q92
                              have hr92 := Kd.F_cut (m := (x7_3 : Int).toNat) (c := co36) hC92 (by omega) hroom92
                              obtain ⟨A92, hA92⟩ : ∃ A1, A1 = (if co36 = (x7_3 : Int).toNat then Ao36 else (Ao36 : Option Addr).map (·.add ((x7_3 : Int).toNat * 1))) := ⟨_, rfl⟩
                              obtain ⟨c92, hc92⟩ : ∃ c1, c1 = co36 - (x7_3 : Int).toNat := ⟨_, rfl⟩
                              have hy92 : y148.length = x6_25.length - (x7_3 : Int).toNat := (by rw [Ny148.out, List.length_drop] <;> omega)
                              rw [show (x6_25).drop (x7_3 : Int).toNat = y148 from Ny148.out.symm] at hr92
                              replace hr92 : Kd.F (Kd.int .i64) _ _ A92 y148.length y148 := (by rw [hA92]; exact hr92)
                              rw [← hy92, ← hA92, ← hc92] at hcut92
                              have HO152 := A_ (show Kd.V (Kd.int .i64) 3 _ w.heap.size _ (.slice A92 y148.length c92) y148 from Kd.V_mk (by rw [hy92, hc92]; exact Nat.sub_le_sub_right hroom92 _) hr92)
                              have HC152 := A_ (show y148.length ≤ c92 from by rw [hy92, hc92]; exact Nat.sub_le_sub_right hroom92 _)
                              clear hr92 hC92 hroom92 hi092 hsz92 hc92
                              have KY92 := A_ hy92
                              have KA92 := A_ hA92
                              clear hy92 hA92
                              replace q92 := eq_true q92
                              have q93 : ((ji85) : Int) ≤ ((x5_25.length : Int) : Int) := of_decide_eq_true (by first | (with_reducible assumption) | assumption)
                              obtain ⟨i093, hi093, _, hsz93, _⟩ := info_parts info3
                              have hroom93 : x5_25.length ≤ co35 := (Kd.V_reads' HO_5.out).2.1
                              have hC93 : Kd.F (Kd.int .i64) _ _ Ao35 x5_25.length x5_25 := (Kd.V_at (base := w.heap.size) HO_5.out).2.2
                              have q093 : (0 : Int) ≤ ((ji85) : Int) := of_decide_eq_true (by first | (with_reducible assumption) | assumption)
                              have hcut93 := cut_from (P := Try.prog) 30 3 .i64 Try.underlying30 hi093 1 hsz93 Ao35 x5_25.length co35 (ji85) q093 q93
                              have hr93 := Kd.F_cut (m := ((ji85) : Int).toNat) (c := co35) hC93 (by omega) hroom93
                              obtain ⟨A93, hA93⟩ : ∃ A1, A1 = (if co35 = ((ji85) : Int).toNat then Ao35 else (Ao35 : Option Addr).map (·.add (((ji85) : Int).toNat * 1))) := ⟨_, rfl⟩
                              obtain ⟨c93, hc93⟩ : ∃ c1, c1 = co35 - ((ji85) : Int).toNat := ⟨_, rfl⟩
                              have hy93 : y153.length = x5_25.length - ((ji85) : Int).toNat := (by rw [Ny153.out, List.length_drop] <;> omega)
                              rw [show (x5_25).drop ((ji85) : Int).toNat = y153 from Ny153.out.symm] at hr93
                              replace hr93 : Kd.F (Kd.int .i64) _ _ A93 y153.length y153 := (by rw [hA93]; exact hr93)
                              rw [← hy93, ← hA93, ← hc93] at hcut93
                              have HO157 := A_ (show Kd.V (Kd.int .i64) 3 _ w.heap.size _ (.slice A93 y153.length c93) y153 from Kd.V_mk (by rw [hy93, hc93]; exact Nat.sub_le_sub_right hroom93 _) hr93)
                              have HC157 := A_ (show y153.length ≤ c93 from by rw [hy93, hc93]; exact Nat.sub_le_sub_right hroom93 _)
                              clear hr93 hC93 hroom93 hi093 hsz93 hc93
                              have KY93 := A_ hy93
                              have KA93 := A_ hA93
                              clear hy93 hA93
                              replace q93 := eq_true q93
                              go_wp2_with (first | (go_at_call 53; (with_reducible refine (slices_Equal_int_int.calls k3 _ _ y148 _ _ y153 t158 _ ?side1 ?side2 ?side3 ?side4 A88.out).mono ?_); (case side1 => repeat (first | exact (Kd.V_reads' HO152.out).2.2 | (with_reducible refine Kd.C_alloc ?_ _) | (with_reducible refine Kd.C_drewN ?_ _) | (with_reducible refine Kd.C_drew ?_))); (case side2 => exact (Kd.V_reads' HO152.out).2.1); (case side3 => repeat (first | exact (Kd.V_reads' HO157.out).2.2 | (with_reducible refine Kd.C_alloc ?_ _) | (with_reducible refine Kd.C_drewN ?_ _) | (with_reducible refine Kd.C_drew ?_))); (case side4 => exact (Kd.V_reads' HO157.out).2.1); rintro e w' ⟨rfl, ⟨nd, rfl⟩⟩; (try first | exact ⟨rfl, _, World.drewN_drewN _ _ _⟩ | exact ⟨rfl, _, Eq.trans (World.drewN_drewN _ _ _) (congrArg (World.drewN _) (Nat.add_assoc _ _ _))⟩)))
                              repeat (go_quiet (first | (go_at_call 53; (with_reducible refine (slices_Equal_int_int.calls k3 _ _ y148 _ _ y153 t158 _ ?side1 ?side2 ?side3 ?side4 A88.out).mono ?_); (case side1 => repeat (first | exact (Kd.V_reads' HO152.out).2.2 | (with_reducible refine Kd.C_alloc ?_ _) | (with_reducible refine Kd.C_drewN ?_ _) | (with_reducible refine Kd.C_drew ?_))); (case side2 => exact (Kd.V_reads' HO152.out).2.1); (case side3 => repeat (first | exact (Kd.V_reads' HO157.out).2.2 | (with_reducible refine Kd.C_alloc ?_ _) | (with_reducible refine Kd.C_drewN ?_ _) | (with_reducible refine Kd.C_drew ?_))); (case side4 => exact (Kd.V_reads' HO157.out).2.1); rintro e w' ⟨rfl, ⟨nd, rfl⟩⟩; (try first | exact ⟨rfl, _, World.drewN_drewN _ _ _⟩ | exact ⟨rfl, _, Eq.trans (World.drewN_drewN _ _ _) (congrArg (World.drewN _) (Nat.add_assoc _ _ _))⟩))); try go_wp2_with (first | (go_at_call 53; (with_reducible refine (slices_Equal_int_int.calls k3 _ _ y148 _ _ y153 t158 _ ?side1 ?side2 ?side3 ?side4 A88.out).mono ?_); (case side1 => repeat (first | exact (Kd.V_reads' HO152.out).2.2 | (with_reducible refine Kd.C_alloc ?_ _) | (with_reducible refine Kd.C_drewN ?_ _) | (with_reducible refine Kd.C_drew ?_))); (case side2 => exact (Kd.V_reads' HO152.out).2.1); (case side3 => repeat (first | exact (Kd.V_reads' HO157.out).2.2 | (with_reducible refine Kd.C_alloc ?_ _) | (with_reducible refine Kd.C_drewN ?_ _) | (with_reducible refine Kd.C_drew ?_))); (case side4 => exact (Kd.V_reads' HO157.out).2.1); rintro e w' ⟨rfl, ⟨nd, rfl⟩⟩; (try first | exact ⟨rfl, _, World.drewN_drewN _ _ _⟩ | exact ⟨rfl, _, Eq.trans (World.drewN_drewN _ _ _) (congrArg (World.drewN _) (Nat.add_assoc _ _ _))⟩))))
                              go_ret
                              exact ⟨by first | rfl | (simp [errW_none, errW_some] <;> rfl) | (simp only [← hji85]; first | rfl | (simp [errW_none, errW_some] <;> rfl)) | (simp [*, errW_none, errW_some] <;> rfl), by repeat (first | (with_reducible first | exact HB.out | apply pA_ | apply pN_ | apply pD_ | refine bs_ ?_ GE109.out | refine bs_ ?_ GE110.out) | exact HB.out)⟩
                            · rw [if_neg c87] at H
                              exact absurd H (by simp)
                          · rw [if_neg c86] at H
                            exact absurd H (by simp)
                        · rw [if_neg c84] at H
                          exact absurd H (by simp)
                      · rw [if_neg c83] at H
                        exact absurd H (by simp)
            · rw [if_neg c34] at H
              have c34b0 : ((x5_25.length : Int) == (wrap64 ((x6_25.length : Int) + 1))) = false := beq_eq_false_iff_ne.mpr c34
              have c34b1 : ((x5_25.length : Int) != (wrap64 ((x6_25.length : Int) + 1))) = true := bne_iff_ne.mpr c34
              obtain rfl := Option.some.inj H
              obtain ⟨Ao94, co94, eo94⟩ := Kd.V_slice HO_5.out
              subst eo94
              obtain ⟨Ao95, co95, eo95⟩ := Kd.V_slice HO_6.out
              subst eo95
              go_wp2
              repeat (go_quiet (fail); try go_wp2)
              go_ret
              exact ⟨by first | rfl | (simp [errW_none, errW_some] <;> rfl) | (simp [*, errW_none, errW_some] <;> rfl), by repeat (first | (with_reducible first | exact HB.out | apply pA_ | apply pN_ | apply pD_ | refine bs_ ?_ GE109.out | refine bs_ ?_ GE110.out) | exact HB.out)⟩

end Go.Proofs.Ytjhijklgpgdlaaa.G
