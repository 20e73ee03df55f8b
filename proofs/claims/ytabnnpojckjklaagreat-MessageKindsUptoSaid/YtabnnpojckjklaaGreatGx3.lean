-- Written for this claim by a program of this session (wip/xprint.py), by means of the kit's print. Not trusted: Lean checks it.
import Derived.Test.YtabnnpojckjklaaGreatGx0
import Derived.Test.YtabnnpojckjklaaGreatGx1
import Derived.Test.YtabnnpojckjklaaGreatGx2
namespace Go.Proofs.YtabnnpojckjklaaGreat.G
open Go.RowKit Go.Proofs.YtabnnpojckjklaaGreatW.PrintWords Go.Proofs.YtabnnpojckjklaaGreatW.PrintLast Go.Proofs.YtabnnpojckjklaaGreatW.PrintMore
attribute [local go_sem] max2_int min2_int max_two min_two max_three min_three max_four min_four   -- for this text's walks alone
set_option linter.unusedVariables false
set_option linter.unusedSimpArgs false

/-! ### hawserlaw15_MessageKinds: function 3 -/
def hawserlaw15_MessageKinds.f (a0 : Int) : Option (Bool) := (message_Between.f a0).bind fun bt191 => ((message_Name.f a0).bind fun t194 => ((hawserref15_IsKind.f a0).bind fun t195 => (if t195 = true then ((hawserref15_Table.f).bind fun t196 => (if 0 ≤ a0 then (if a0 < (t196.length : Int) then (if t194.toList = ((rd_T29 t196 a0).f0).toList then (if (bt191.1 == ((Go.bits .and .i64 ((rd_T29 t196 a0).f1) 1) != 0)) = true then (if (bt191.2.1 == ((Go.bits .and .i64 ((rd_T29 t196 a0).f1) 120) != 0)) = true then (some (bt191.2.2 == ((Go.bits .and .i64 ((rd_T29 t196 a0).f1) 86) != 0))) else (none)) else (none)) else (none)) else (none)) else (none))) else (if t194.toList = ([] : List UInt8) then (if bt191.1 = true then (none) else (if bt191.2.1 = true then (none) else (if bt191.2.2 = true then (none) else ((message_Name.f 10).bind fun t201 => (some (t201.toList == ([97, 99, 107] : List UInt8))))))) else (none)))))
set_option maxHeartbeats 8000000 in
set_option maxRecDepth 100000 in
theorem hawserlaw15_MessageKinds.calls (a0 : Int) (r : Bool) (w : World) (h : hawserlaw15_MessageKinds.f a0 = some r) :
    Calls Tryz.prog 3 #[.int .i64 a0] w fun e w' => e = .returned (.bool r) ∧ Below w.heap.size w w' := by
  have hu29 := Tryz.underlying29
  have HB := Aside0.mk (Below.refl w.heap.size w)
  have H : ((message_Between.f a0).bind fun bt191 => ((message_Name.f a0).bind fun t194 => ((hawserref15_IsKind.f a0).bind fun t195 => (if t195 = true then ((hawserref15_Table.f).bind fun t196 => (if 0 ≤ a0 then (if a0 < (t196.length : Int) then (if t194.toList = ((rd_T29 t196 a0).f0).toList then (if (bt191.1 == ((Go.bits .and .i64 ((rd_T29 t196 a0).f1) 1) != 0)) = true then (if (bt191.2.1 == ((Go.bits .and .i64 ((rd_T29 t196 a0).f1) 120) != 0)) = true then (some (bt191.2.2 == ((Go.bits .and .i64 ((rd_T29 t196 a0).f1) 86) != 0))) else (none)) else (none)) else (none)) else (none)) else (none))) else (if t194.toList = ([] : List UInt8) then (if bt191.1 = true then (none) else (if bt191.2.1 = true then (none) else (if bt191.2.2 = true then (none) else ((message_Name.f 10).bind fun t201 => (some (t201.toList == ([97, 99, 107] : List UInt8))))))) else (none)))))) = some r := h
  clear h
  replace H := Option.bind_eq_some_iff.mp H
  obtain ⟨⟨t191, t192, t193⟩, A20, H⟩ := H
  replace H : ((message_Name.f a0).bind fun t194 => ((hawserref15_IsKind.f a0).bind fun t195 => (if t195 = true then ((hawserref15_Table.f).bind fun t196 => (if 0 ≤ a0 then (if a0 < (t196.length : Int) then (if t194.toList = ((rd_T29 t196 a0).f0).toList then (if (t191 == ((Go.bits .and .i64 ((rd_T29 t196 a0).f1) 1) != 0)) = true then (if (t192 == ((Go.bits .and .i64 ((rd_T29 t196 a0).f1) 120) != 0)) = true then (some (t193 == ((Go.bits .and .i64 ((rd_T29 t196 a0).f1) 86) != 0))) else (none)) else (none)) else (none)) else (none)) else (none))) else (if t194.toList = ([] : List UInt8) then (if t191 = true then (none) else (if t192 = true then (none) else (if t193 = true then (none) else ((message_Name.f 10).bind fun t201 => (some (t201.toList == ([97, 99, 107] : List UInt8))))))) else (none))))) = some r := H
  have A2 := Aside0.mk A20
  clear A20
  replace H := Option.bind_eq_some_iff.mp H
  obtain ⟨t194, A30, H⟩ := H
  replace H : ((hawserref15_IsKind.f a0).bind fun t195 => (if t195 = true then ((hawserref15_Table.f).bind fun t196 => (if 0 ≤ a0 then (if a0 < (t196.length : Int) then (if t194.toList = ((rd_T29 t196 a0).f0).toList then (if (t191 == ((Go.bits .and .i64 ((rd_T29 t196 a0).f1) 1) != 0)) = true then (if (t192 == ((Go.bits .and .i64 ((rd_T29 t196 a0).f1) 120) != 0)) = true then (some (t193 == ((Go.bits .and .i64 ((rd_T29 t196 a0).f1) 86) != 0))) else (none)) else (none)) else (none)) else (none)) else (none))) else (if t194.toList = ([] : List UInt8) then (if t191 = true then (none) else (if t192 = true then (none) else (if t193 = true then (none) else ((message_Name.f 10).bind fun t201 => (some (t201.toList == ([97, 99, 107] : List UInt8))))))) else (none)))) = some r := H
  have A3 := Aside0.mk A30
  clear A30
  replace H := Option.bind_eq_some_iff.mp H
  obtain ⟨t195, A40, H⟩ := H
  replace H : (if t195 = true then ((hawserref15_Table.f).bind fun t196 => (if 0 ≤ a0 then (if a0 < (t196.length : Int) then (if t194.toList = ((rd_T29 t196 a0).f0).toList then (if (t191 == ((Go.bits .and .i64 ((rd_T29 t196 a0).f1) 1) != 0)) = true then (if (t192 == ((Go.bits .and .i64 ((rd_T29 t196 a0).f1) 120) != 0)) = true then (some (t193 == ((Go.bits .and .i64 ((rd_T29 t196 a0).f1) 86) != 0))) else (none)) else (none)) else (none)) else (none)) else (none))) else (if t194.toList = ([] : List UInt8) then (if t191 = true then (none) else (if t192 = true then (none) else (if t193 = true then (none) else ((message_Name.f 10).bind fun t201 => (some (t201.toList == ([97, 99, 107] : List UInt8))))))) else (none))) = some r := H
  have A4 := Aside0.mk A40
  clear A40
  by_cases c5 : t195 = true
  · subst c5
    have H1 : ((hawserref15_Table.f).bind fun t196 => (if 0 ≤ a0 then (if a0 < (t196.length : Int) then (if t194.toList = ((rd_T29 t196 a0).f0).toList then (if (t191 == ((Go.bits .and .i64 ((rd_T29 t196 a0).f1) 1) != 0)) = true then (if (t192 == ((Go.bits .and .i64 ((rd_T29 t196 a0).f1) 120) != 0)) = true then (some (t193 == ((Go.bits .and .i64 ((rd_T29 t196 a0).f1) 86) != 0))) else (none)) else (none)) else (none)) else (none)) else (none))) = some r := by rw [if_pos rfl] at H; exact H
    clear H
    have H := H1
    clear H1
    replace H := Option.bind_eq_some_iff.mp H
    obtain ⟨t196, A60, H⟩ := H
    replace H : (if 0 ≤ a0 then (if a0 < (t196.length : Int) then (if t194.toList = ((rd_T29 t196 a0).f0).toList then (if (t191 == ((Go.bits .and .i64 ((rd_T29 t196 a0).f1) 1) != 0)) = true then (if (t192 == ((Go.bits .and .i64 ((rd_T29 t196 a0).f1) 120) != 0)) = true then (some (t193 == ((Go.bits .and .i64 ((rd_T29 t196 a0).f1) 86) != 0))) else (none)) else (none)) else (none)) else (none)) else (none)) = some r := H
    have A6 := Aside0.mk A60
    clear A60
    by_cases c7 : 0 ≤ a0
    · rw [if_pos c7] at H
      have c7b0 : decide (0 ≤ a0) = true := decide_eq_true c7
      clear c7
      by_cases c8 : a0 < (t196.length : Int)
      · rw [if_pos c8] at H
        have c8b0 : decide (a0 < (t196.length : Int)) = true := decide_eq_true c8
        clear c8
        by_cases c9 : t194.toList = ((rd_T29 t196 a0).f0).toList
        · rw [if_pos c9] at H
          have c9b0 : (t194.toList == ((rd_T29 t196 a0).f0).toList) = true := beq_iff_eq.mpr c9
          have c9b1 : (t194.toList != ((rd_T29 t196 a0).f0).toList) = false := bne_eq_false_iff_eq.mpr c9
          clear c9
          by_cases c10 : (t191 == ((Go.bits .and .i64 ((rd_T29 t196 a0).f1) 1) != 0)) = true
          · rw [if_pos c10] at H
            have c10b0 : (t191 == ((Go.bits .and .i64 ((rd_T29 t196 a0).f1) 1) != 0)) = true := c10
            (try (have c10b1 : decide (t191 = ((Go.bits .and .i64 ((rd_T29 t196 a0).f1) 1) != 0)) = true := by simpa using c10))
            (try (have c10b2 : (t191 == ((Go.bits .and .i64 ((rd_T29 t196 a0).f1) 1) != 0)) = true := by simpa using c10))
            clear c10
            by_cases c11 : (t192 == ((Go.bits .and .i64 ((rd_T29 t196 a0).f1) 120) != 0)) = true
            · rw [if_pos c11] at H
              have c11b0 : (t192 == ((Go.bits .and .i64 ((rd_T29 t196 a0).f1) 120) != 0)) = true := c11
              (try (have c11b1 : decide (t192 = ((Go.bits .and .i64 ((rd_T29 t196 a0).f1) 120) != 0)) = true := by simpa using c11))
              (try (have c11b2 : (t192 == ((Go.bits .and .i64 ((rd_T29 t196 a0).f1) 120) != 0)) = true := by simpa using c11))
              clear c11
              obtain rfl := Option.some.inj H
              go_enter Tryz.func3, Tryz.ntmps3
              go_wp2_with (first | ((with_reducible refine gate_callee (f := 4) rfl ?_); refine goesL_ (some 10) rfl rfl Tryz.func4 (by kernel_rfl) rfl #[.int .i64 a0] rfl (by (try simp only [List.map_toArray, List.map_cons, List.map_nil]); first | done | rfl | (simp only [List.length_drop, List.length_take]; rfl)) ?_; (with_reducible refine (message_Between.calls a0 t191 t192 t193 _ A2.out).mono ?_); rintro e w12 ⟨rfl, hb⟩; refine ⟨_, rfl, ?_⟩; have n0_ := Aside0.mk (below_step (by repeat (first | (with_reducible first | exact HB.out | apply below_alloc | apply pw_below_drewN | apply below_drew1) | exact HB.out)) hb); clear HB; have HB := n0_; clear n0_; (try clear hb); (try clear hb2); (try clear hk); (try clear hi)) | ((with_reducible refine gate_callee (f := 5) rfl ?_); refine goesL_ (some 15) rfl rfl Tryz.func5 (by kernel_rfl) rfl #[.int .i64 a0] rfl (by (try simp only [List.map_toArray, List.map_cons, List.map_nil]); first | done | rfl | (simp only [List.length_drop, List.length_take]; rfl)) ?_; (with_reducible refine (message_Name.calls a0 t194 _ A3.out).mono ?_); rintro e w13 ⟨rfl, hb⟩; refine ⟨_, rfl, ?_⟩; have n0_ := Aside0.mk (below_step (by repeat (first | (with_reducible first | exact HB.out | apply below_alloc | apply pw_below_drewN | apply below_drew1) | exact HB.out)) hb); clear HB; have HB := n0_; clear n0_; (try clear hb); (try clear hb2); (try clear hk); (try clear hi)) | ((with_reducible refine gate_callee (f := 6) rfl ?_); refine goesL_ (some 17) rfl rfl Tryz.func6 (by kernel_rfl) rfl #[.int .i64 a0] rfl (by (try simp only [List.map_toArray, List.map_cons, List.map_nil]); first | done | rfl | (simp only [List.length_drop, List.length_take]; rfl)) ?_; (with_reducible refine (hawserref15_IsKind.calls a0 true _ A4.out).mono ?_); rintro e w14 ⟨rfl, hb⟩; refine ⟨_, rfl, ?_⟩; have n0_ := Aside0.mk (below_step (by repeat (first | (with_reducible first | exact HB.out | apply below_alloc | apply pw_below_drewN | apply below_drew1) | exact HB.out)) hb); clear HB; have HB := n0_; clear n0_; (try clear hb); (try clear hb2); (try clear hk); (try clear hi)) | ((with_reducible refine gate_callee (f := 7) rfl ?_); refine goesL_ (some 37) rfl rfl Tryz.func7 (by kernel_rfl) rfl #[] rfl (by (try simp only [List.map_toArray, List.map_cons, List.map_nil]); first | done | rfl | (simp only [List.length_drop, List.length_take]; rfl)) ?_; (with_reducible refine (hawserref15_Table.calls  t196 _ A6.out).mono ?_); rintro e w15 ⟨v197, rfl, ho0, hb⟩; refine ⟨_, rfl, ?_⟩; have n0_ := Aside0.mk (Kd.N_lower (Kd.N_mono (ok' := fun k_ => True) ho0 (fun k_ hk_ => trivial)) (below_size (by repeat (first | (with_reducible first | exact HB.out | apply below_alloc | apply pw_below_drewN | apply below_drew1) | exact HB.out)))); have n1_ := Aside0.mk (below_step (by repeat (first | (with_reducible first | exact HB.out | apply below_alloc | apply pw_below_drewN | apply below_drew1) | exact HB.out)) hb); clear HB; have HO198 := n0_; have HB := n1_; clear n0_ n1_; (try clear hb); (try clear hb2); (try clear hk); (try clear hi); (try clear ho0); obtain ⟨Ao16, co16, eo16⟩ := Kd.N_slice HO198.out; subst eo16; have p199 : 0 ≤ (a0 : Int) := of_decide_eq_true (by first | (with_reducible assumption) | assumption); have q199 : a0 < (t196.length : Int) := of_decide_eq_true (by first | (with_reducible assumption) | assumption); obtain ⟨ad199, A199_2, c199_2, e199, hx199_0, hx199_1, hx199_2, hl199_2, hi199_2⟩ := at_T29 (Kd.N_reads' HO198.out).2.2 a0 p199 q199; cases e199; obtain ⟨ce199, hce199, hMe199, hcc199⟩ := Kd.N_get HO198.out z29 a0 p199 (by first | exact q199 | exact of_decide_eq_true (by first | (with_reducible assumption) | assumption) | (have e_ := (Kd.N_reads' HO198.out).1; omega)); obtain ⟨ua199_2, uc199_2, rfl, ul199_2, ge199_2⟩ := k29_openF hMe199; have hv199_2 := hcc199 2 _ rfl; rw [add_field _ _ 2 (by omega)] at hv199_2; replace hv199_2 := Option.some.inj (hv199_2.symm.trans hx199_2); injection hv199_2 with hva_ hvn_ hvc_; rw [hva_] at ge199_2; rw [hvc_] at ul199_2; have HL199_2 := Aside0.mk (show Kd.V (Kd.int .i64) 3 _ w.heap.size _ _ ((rd_T29 t196 a0).f2) from Kd.V_mk ul199_2 ge199_2); clear hva_ hvn_ hvc_ ge199_2 ul199_2; clear hcc199 hce199; have HR199_2 := Aside0.mk hi199_2; have HC199_2 := Aside0.mk hl199_2; clear hi199_2 hl199_2; replace p199 := eq_true p199; replace q199 := eq_true q199) | ((with_reducible refine gate_dst (N := 7) rfl ?_); refine box_event ?hg (N := 7) ?hd (cs := #[.string (⟨#[]⟩ : ByteArray), .int .i64 0, .slice none 0 0]) (t := 29) ?hr ?_; (case hd => rfl); (case hg => rfl); (case hr => first | (go_simp; done) | (go_simp; rfl)); intro gb200 hg w17 hbox hb; have n0_ := Aside0.mk (Kd.N_below (Kd.N_elderB (by (with_reducible repeat (first | apply Kd.N_alloc | apply Kd.N_drewN | apply Kd.N_drew)); exact HO198.out) gb200 (Nat.le_of_eq hg.symm)) hb); have n1_ := Aside0.mk (Kd.V_below (Kd.V_elderB (by (with_reducible repeat (first | apply Kd.V_alloc | apply Kd.V_drewN | apply Kd.V_drew)); exact HL199_2.out) gb200 (Nat.le_of_eq hg.symm)) hb); have n2_ := Aside0.mk (Kd.C_below (by repeat (first | (with_reducible exact HR199_2.out) | (with_reducible refine Kd.C_alloc ?_ _) | (with_reducible refine Kd.C_drewN ?_ _) | (with_reducible refine Kd.C_drew ?_) | exact HR199_2.out)) hb); have n3_ := Aside0.mk (below_step (by repeat (first | (with_reducible first | exact HB.out | apply below_alloc | apply pw_below_drewN | apply below_drew1) | exact HB.out)) hb); have n4_ := Aside0.mk (hbox); have n5_ := Aside0.mk ((by rw [hg]; exact (below_size (by repeat (first | (with_reducible first | exact HB.out | apply below_alloc | apply pw_below_drewN | apply below_drew1) | exact HB.out))) : w.heap.size ≤ gb200)); have n6_ := Aside0.mk ((by rw [hg]; exact (below_size (by repeat (first | (with_reducible first | exact HB.out | apply below_alloc | apply pw_below_drewN | apply below_drew1) | exact HB.out))) : w.heap.size ≤ gb200)); clear HO198; clear HL199_2; clear HR199_2; clear HB; have HO198 := n0_; have HL199_2 := n1_; have HR199_2 := n2_; have HB := n3_; have BK200 := n4_; have GW200 := n5_; have GE200 := n6_; clear n0_ n1_ n2_ n3_ n4_ n5_ n6_; clear hb hbox hg; have hcz18_0 : w17.cell? ⟨gb200, 0, none⟩ = some (.string (⟨#[]⟩ : ByteArray)) := (blk_cell BK200.out 0).trans rfl; have hcz18_1 : w17.cell? ⟨gb200, 1, none⟩ = some (.int .i64 0) := (blk_cell BK200.out 1).trans rfl; have hcz18_2 : w17.cell? ⟨gb200, 2, none⟩ = some (.slice none 0 0) := (blk_cell BK200.out 2).trans rfl; have hfz18_0 := blk_frozen BK200.out 0; have hfz18_1 := blk_frozen BK200.out 1; have hfz18_2 := blk_frozen BK200.out 2))
              go_ret
              exact ⟨by first | rfl | (simp [errW_none, errW_some] <;> rfl) | (simp [*, errW_none, errW_some] <;> rfl), by repeat (first | (with_reducible first | exact HB.out | apply below_alloc | apply pw_below_drewN | apply below_drew1 | refine below_set ?_ GE200.out) | exact HB.out)⟩
            · rw [if_neg c11] at H
              exact absurd H (by simp)
          · rw [if_neg c10] at H
            exact absurd H (by simp)
        · rw [if_neg c9] at H
          exact absurd H (by simp)
      · rw [if_neg c8] at H
        exact absurd H (by simp)
    · rw [if_neg c7] at H
      exact absurd H (by simp)
  · replace c5 := Bool.eq_false_iff.mpr c5
    subst c5
    have H1 : (if t194.toList = ([] : List UInt8) then (if t191 = true then (none) else (if t192 = true then (none) else (if t193 = true then (none) else ((message_Name.f 10).bind fun t201 => (some (t201.toList == ([97, 99, 107] : List UInt8))))))) else (none)) = some r := by rw [if_neg (show ¬ (false = true) by decide)] at H; exact H
    clear H
    have H := H1
    clear H1
    by_cases c19 : t194.toList = ([] : List UInt8)
    · rw [if_pos c19] at H
      have c19b0 : (t194.toList == ([] : List UInt8)) = true := beq_iff_eq.mpr c19
      have c19b1 : (t194.toList != ([] : List UInt8)) = false := bne_eq_false_iff_eq.mpr c19
      clear c19
      by_cases c20 : t191 = true
      · subst c20
        have H1 : (none) = some r := by rw [if_pos rfl] at H; exact H
        clear H
        have H := H1
        clear H1
        exact absurd H (by simp)
      · replace c20 := Bool.eq_false_iff.mpr c20
        subst c20
        have H1 : (if t192 = true then (none) else (if t193 = true then (none) else ((message_Name.f 10).bind fun t201 => (some (t201.toList == ([97, 99, 107] : List UInt8)))))) = some r := by rw [if_neg (show ¬ (false = true) by decide)] at H; exact H
        clear H
        have H := H1
        clear H1
        by_cases c21 : t192 = true
        · subst c21
          have H1 : (none) = some r := by rw [if_pos rfl] at H; exact H
          clear H
          have H := H1
          clear H1
          exact absurd H (by simp)
        · replace c21 := Bool.eq_false_iff.mpr c21
          subst c21
          have H1 : (if t193 = true then (none) else ((message_Name.f 10).bind fun t201 => (some (t201.toList == ([97, 99, 107] : List UInt8))))) = some r := by rw [if_neg (show ¬ (false = true) by decide)] at H; exact H
          clear H
          have H := H1
          clear H1
          by_cases c22 : t193 = true
          · subst c22
            have H1 : (none) = some r := by rw [if_pos rfl] at H; exact H
            clear H
            have H := H1
            clear H1
            exact absurd H (by simp)
          · replace c22 := Bool.eq_false_iff.mpr c22
            subst c22
            have H1 : ((message_Name.f 10).bind fun t201 => (some (t201.toList == ([97, 99, 107] : List UInt8)))) = some r := by rw [if_neg (show ¬ (false = true) by decide)] at H; exact H
            clear H
            have H := H1
            clear H1
            replace H := Option.bind_eq_some_iff.mp H
            obtain ⟨t201, A230, H⟩ := H
            replace H : (some (t201.toList == ([97, 99, 107] : List UInt8))) = some r := H
            have A23 := Aside0.mk A230
            clear A230
            obtain rfl := Option.some.inj H
            go_enter Tryz.func3, Tryz.ntmps3
            go_wp2_with (first | ((with_reducible refine gate_callee (f := 4) rfl ?_); refine goesL_ (some 10) rfl rfl Tryz.func4 (by kernel_rfl) rfl #[.int .i64 a0] rfl (by (try simp only [List.map_toArray, List.map_cons, List.map_nil]); first | done | rfl | (simp only [List.length_drop, List.length_take]; rfl)) ?_; (with_reducible refine (message_Between.calls a0 false false false _ A2.out).mono ?_); rintro e w24 ⟨rfl, hb⟩; refine ⟨_, rfl, ?_⟩; have n0_ := Aside0.mk (below_step (by repeat (first | (with_reducible first | exact HB.out | apply below_alloc | apply pw_below_drewN | apply below_drew1) | exact HB.out)) hb); clear HB; have HB := n0_; clear n0_; (try clear hb); (try clear hb2); (try clear hk); (try clear hi)) | ((with_reducible refine gate_callee (f := 5) rfl ?_); refine goesL_ (some 15) rfl rfl Tryz.func5 (by kernel_rfl) rfl #[.int .i64 a0] rfl (by (try simp only [List.map_toArray, List.map_cons, List.map_nil]); first | done | rfl | (simp only [List.length_drop, List.length_take]; rfl)) ?_; (with_reducible refine (message_Name.calls a0 t194 _ A3.out).mono ?_); rintro e w25 ⟨rfl, hb⟩; refine ⟨_, rfl, ?_⟩; have n0_ := Aside0.mk (below_step (by repeat (first | (with_reducible first | exact HB.out | apply below_alloc | apply pw_below_drewN | apply below_drew1) | exact HB.out)) hb); clear HB; have HB := n0_; clear n0_; (try clear hb); (try clear hb2); (try clear hk); (try clear hi)) | ((with_reducible refine gate_callee (f := 6) rfl ?_); refine goesL_ (some 17) rfl rfl Tryz.func6 (by kernel_rfl) rfl #[.int .i64 a0] rfl (by (try simp only [List.map_toArray, List.map_cons, List.map_nil]); first | done | rfl | (simp only [List.length_drop, List.length_take]; rfl)) ?_; (with_reducible refine (hawserref15_IsKind.calls a0 false _ A4.out).mono ?_); rintro e w26 ⟨rfl, hb⟩; refine ⟨_, rfl, ?_⟩; have n0_ := Aside0.mk (below_step (by repeat (first | (with_reducible first | exact HB.out | apply below_alloc | apply pw_below_drewN | apply below_drew1) | exact HB.out)) hb); clear HB; have HB := n0_; clear n0_; (try clear hb); (try clear hb2); (try clear hk); (try clear hi)) | (go_at_call 5; (with_reducible refine (message_Name.calls 10 t201 _ A23.out).mono ?_); rintro e w27 ⟨rfl, hb⟩; have n0_ := Aside0.mk (below_step (by repeat (first | (with_reducible first | exact HB.out | apply below_alloc | apply pw_below_drewN | apply below_drew1) | exact HB.out)) hb); clear HB; have HB := n0_; clear n0_; (try clear hb); (try clear hb2); (try clear hk); (try clear hi)))
            go_ret
            exact ⟨by first | rfl | (simp [errW_none, errW_some] <;> rfl) | (simp [*, errW_none, errW_some] <;> rfl), by repeat (first | (with_reducible first | exact HB.out | apply below_alloc | apply pw_below_drewN | apply below_drew1) | exact HB.out)⟩
    · rw [if_neg c19] at H
      exact absurd H (by simp)

end Go.Proofs.YtabnnpojckjklaaGreat.G
