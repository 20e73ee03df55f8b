-- Written for this claim by a program of this session (wip/xprint.py), by means of the kit's print. Not trusted: Lean checks it.
import Derived.Test.YtidijiijciokpaaUx0
import Derived.Test.YtidijiijciokpaaUx1
import Derived.Test.YtidijiijciokpaaUx3
namespace Go.Proofs.Ytidijiijciokpaa.U
open Go.RowKit Go.Proofs.YtidijiijciokpaaW.PrintWords Go.Proofs.YtidijiijciokpaaW.PrintLast Go.Proofs.YtidijiijciokpaaW.PrintMore
attribute [local go_sem] max2_int min2_int max_two min_two max_three min_three max_four min_four   -- for this text's walks alone
set_option linter.unusedVariables false
set_option linter.unusedSimpArgs false

-- NOT PRINTED: function 136 (slices_medianAdjacentOrdered_string)

-- NOT PRINTED: function 123 (slices_choosePivotOrdered_string)

-- NOT PRINTED: function 124 (slices_reverseRangeOrdered_string)

-- NOT PRINTED: function 125 (slices_partialInsertionSortOrdered_string)

-- NOT PRINTED: function 127 (slices_partitionEqualOrdered_string)

-- NOT PRINTED: function 128 (slices_partitionOrdered_string)

-- NOT PRINTED: function 109 (slices_pdqsortOrdered_string)

-- NOT PRINTED: function 95 (slices_Sort_string_string)

-- NOT PRINTED: function 63 (slices_Sorted_string)

-- NOT PRINTED: function 64 (disk_files_string_byte)

-- NOT PRINTED: function 49 (disk_files_listed)

-- NOT PRINTED: function 14 (disk_Disk_Left)

-- NOT PRINTED: function 18 (disk_Disk_Start)

-- NOT PRINTED: function 19 (disk_Disk_Fail)

-- NOT PRINTED: function 55 (disk_files_takes)

-- NOT PRINTED: function 21 (disk_Disk_Crash)

-- NOT PRINTED: function 52 (disk_Disk_ready)

-- NOT PRINTED: function 53 (disk_Disk_act)

-- NOT PRINTED: function 20 (disk_Disk_Sync)

-- NOT PRINTED: function 90 (disk_Disk_has)

-- NOT PRINTED: function 91 (disk_Disk_step)

-- NOT PRINTED: function 45 (disk_Disk_Create)

-- NOT PRINTED: function 65 (disk_Disk_there)

-- NOT PRINTED: function 46 (disk_Disk_Append)

-- NOT PRINTED: function 60 (disk_Disk_Cut)

-- NOT PRINTED: function 61 (disk_Disk_Rename)

-- NOT PRINTED: function 62 (disk_Disk_Remove)

-- NOT PRINTED: function 25 (hawserlaw12_act)

-- NOT PRINTED: function 13 (disk_Disk_Pending)

-- NOT PRINTED: function 17 (disk_Disk_Files)

-- NOT PRINTED: function 22 (disk_Disk_Down)

-- NOT PRINTED: function 24 (disk_Disk_Free)

-- NOT PRINTED: function 26 (disk_Disk_Names)

-- NOT PRINTED: function 50 (hawserlaw12_same)

/-! ### hawserref12_without: function 111 -/
def hawserref12_without.f (k : Nat) (l0 : List (S118)) (a1 : ByteArray) : Option ((List (S118))) := (hawserref12_place.f k l0 a1).bind fun bt143 => (if bt143.2 = true then (if 0 ≤ bt143.1 then (if bt143.1 ≤ (l0.length : Int) then ((some (l0.take (bt143.1 : Int).toNat : List (S118))).bind fun y145 => (if ([] : List (S118)).length + y145.length < 4398046511104 then ((some (([] : List (S118)) ++ y145 : List (S118))).bind fun y150 => (if 0 ≤ (wrap64 (bt143.1 + 1)) then (if (wrap64 (bt143.1 + 1)) ≤ (l0.length : Int) then ((some (l0.drop ((wrap64 (bt143.1 + 1)) : Int).toNat : List (S118))).bind fun y153 => (if y150.length + y153.length < 4398046511104 then (some (y150 ++ y153)) else (none))) else (none)) else (none))) else (none))) else (none)) else (none)) else (some l0))
theorem hawserref12_without.mono : ∀ a0 a1 k, LeO (hawserref12_without.f k a0 a1) (hawserref12_without.f (k + 1) a0 a1) := by
  intro a0 a1 k
  unfold hawserref12_without.f
  repeat' first
      | (with_reducible exact hawserref12_place.mono _ _ _)
      | (with_reducible exact LeO.refl _)
      | (with_reducible exact LeO.none _)
      | (with_reducible refine LeO.ite ?_ ?_)
      | (with_reducible refine LeO.bind ?_ (fun _ => ?_))
      | exact hawserref12_place.mono _ _ _
      | exact LeO.none _
      | refine LeO.ite ?_ ?_
      | refine LeO.bind ?_ (fun _ => ?_)
set_option maxHeartbeats 8000000 in
set_option maxRecDepth 100000 in
theorem hawserref12_without.calls (k : Nat) (P0_ : Nat → Prop) (A0 : Option Addr) (c0 : Nat) (l0 : List (S118)) (a1 : ByteArray) (r : List (S118)) (w : World) (hs0 : Kd.V k118 118 w w.heap.size (fun k_ => P0_ k_) (.slice A0 l0.length c0) l0) (h : hawserref12_without.f k l0 a1 = some r) :
    Calls Try.prog 111 #[.slice A0 l0.length c0, .string a1] w fun e w' => ∃ v0_ : Value, e = .returned (v0_) ∧ Kd.V k118 118 w' w.heap.size (fun k_ => (P0_ k_ ∨ w.heap.size ≤ k_)) v0_ r ∧ Below w.heap.size w w' := by
  have HO0 := Aside0.mk (show Kd.V k118 118 w w.heap.size (fun k_ => (P0_ k_ ∨ w.heap.size ≤ k_)) (.slice A0 l0.length c0) l0 from Kd.V_mono hs0 (fun k_ hk => .inl hk))
  have HB := Aside0.mk (Below.refl w.heap.size w)
  have H : ((hawserref12_place.f k l0 a1).bind fun bt143 => (if bt143.2 = true then (if 0 ≤ bt143.1 then (if bt143.1 ≤ (l0.length : Int) then ((some (l0.take (bt143.1 : Int).toNat : List (S118))).bind fun y145 => (if ([] : List (S118)).length + y145.length < 4398046511104 then ((some (([] : List (S118)) ++ y145 : List (S118))).bind fun y150 => (if 0 ≤ (wrap64 (bt143.1 + 1)) then (if (wrap64 (bt143.1 + 1)) ≤ (l0.length : Int) then ((some (l0.drop ((wrap64 (bt143.1 + 1)) : Int).toNat : List (S118))).bind fun y153 => (if y150.length + y153.length < 4398046511104 then (some (y150 ++ y153)) else (none))) else (none)) else (none))) else (none))) else (none)) else (none)) else (some l0))) = some r := h
  clear h
  replace H := Option.bind_eq_some_iff.mp H
  obtain ⟨⟨t143, t144⟩, A30, H⟩ := H
  replace H : (if t144 = true then (if 0 ≤ t143 then (if t143 ≤ (l0.length : Int) then ((some (l0.take (t143 : Int).toNat : List (S118))).bind fun y145 => (if ([] : List (S118)).length + y145.length < 4398046511104 then ((some (([] : List (S118)) ++ y145 : List (S118))).bind fun y150 => (if 0 ≤ (wrap64 (t143 + 1)) then (if (wrap64 (t143 + 1)) ≤ (l0.length : Int) then ((some (l0.drop ((wrap64 (t143 + 1)) : Int).toNat : List (S118))).bind fun y153 => (if y150.length + y153.length < 4398046511104 then (some (y150 ++ y153)) else (none))) else (none)) else (none))) else (none))) else (none)) else (none)) else (some l0)) = some r := H
  have A3 := Aside0.mk A30
  clear A30
  by_cases c4 : t144 = true
  · subst c4
    have H1 : (if 0 ≤ t143 then (if t143 ≤ (l0.length : Int) then ((some (l0.take (t143 : Int).toNat : List (S118))).bind fun y145 => (if ([] : List (S118)).length + y145.length < 4398046511104 then ((some (([] : List (S118)) ++ y145 : List (S118))).bind fun y150 => (if 0 ≤ (wrap64 (t143 + 1)) then (if (wrap64 (t143 + 1)) ≤ (l0.length : Int) then ((some (l0.drop ((wrap64 (t143 + 1)) : Int).toNat : List (S118))).bind fun y153 => (if y150.length + y153.length < 4398046511104 then (some (y150 ++ y153)) else (none))) else (none)) else (none))) else (none))) else (none)) else (none)) = some r := by rw [if_pos rfl] at H; exact H
    clear H
    have H := H1
    clear H1
    by_cases c5 : 0 ≤ t143
    · rw [if_pos c5] at H
      have c5b0 := eq_true c5
      have c5b1 : decide (0 ≤ t143) = true := decide_eq_true c5
      clear c5
      by_cases c6 : t143 ≤ (l0.length : Int)
      · rw [if_pos c6] at H
        have c6b0 := eq_true c6
        have c6b1 : decide (t143 ≤ (l0.length : Int)) = true := decide_eq_true c6
        clear c6
        obtain ⟨y145, hy145⟩ : ∃ y_ : List (S118), y_ = (l0.take (t143 : Int).toNat) := ⟨_, rfl⟩
        replace H : (if ([] : List (S118)).length + y145.length < 4398046511104 then ((some (([] : List (S118)) ++ y145 : List (S118))).bind fun y150 => (if 0 ≤ (wrap64 (t143 + 1)) then (if (wrap64 (t143 + 1)) ≤ (l0.length : Int) then ((some (l0.drop ((wrap64 (t143 + 1)) : Int).toNat : List (S118))).bind fun y153 => (if y150.length + y153.length < 4398046511104 then (some (y150 ++ y153)) else (none))) else (none)) else (none))) else (none)) = some r := by first | (rw [hy145]; with_reducible exact H) | (have H2_ := (Option.bind_some _ _).symm.trans H; rw [hy145]; with_reducible exact H2_) | (have H2_ := (Option.bind_some _ _).symm.trans H; with_reducible exact H2_) | with_reducible exact H | (rw [hy145]; exact H) | exact H
        have Ny145 := Aside0.mk hy145
        clear hy145
        by_cases c7 : ([] : List (S118)).length + y145.length < 4398046511104
        · rw [if_pos c7] at H
          have LMc7 := Aside0.mk c7
          clear c7
          obtain ⟨y150, hy150⟩ : ∃ y_ : List (S118), y_ = (([] : List (S118)) ++ y145) := ⟨_, rfl⟩
          replace H : (if 0 ≤ (wrap64 (t143 + 1)) then (if (wrap64 (t143 + 1)) ≤ (l0.length : Int) then ((some (l0.drop ((wrap64 (t143 + 1)) : Int).toNat : List (S118))).bind fun y153 => (if y150.length + y153.length < 4398046511104 then (some (y150 ++ y153)) else (none))) else (none)) else (none)) = some r := by first | (rw [hy150]; with_reducible exact H) | (have H2_ := (Option.bind_some _ _).symm.trans H; rw [hy150]; with_reducible exact H2_) | (have H2_ := (Option.bind_some _ _).symm.trans H; with_reducible exact H2_) | with_reducible exact H | (rw [hy150]; exact H) | exact H
          have Ny150 := Aside0.mk hy150
          clear hy150
          obtain ⟨ji8, hji8⟩ : ∃ j_ : Int, (wrap64 (t143 + 1)) = j_ := ⟨_, rfl⟩
          replace H : (if 0 ≤ (ji8) then (if (ji8) ≤ (l0.length : Int) then ((some (l0.drop ((ji8) : Int).toNat : List (S118))).bind fun y153 => (if y150.length + y153.length < 4398046511104 then (some (y150 ++ y153)) else (none))) else (none)) else (none)) = some r := by first | (rw [hji8] at H; exact H) | (simp only [hji8] at H ⊢; exact H)
          (try rw [hji8] at A3)
          have hji8w : (IntKind.i64.wrap (t143 + 1)) = ji8 := (i64_w _).trans hji8
          by_cases c9 : 0 ≤ (ji8)
          · rw [if_pos c9] at H
            have c9b0 := eq_true c9
            have c9b1 : decide (0 ≤ (ji8)) = true := decide_eq_true c9
            clear c9
            by_cases c10 : (ji8) ≤ (l0.length : Int)
            · rw [if_pos c10] at H
              have c10b0 := eq_true c10
              have c10b1 : decide ((ji8) ≤ (l0.length : Int)) = true := decide_eq_true c10
              clear c10
              obtain ⟨y153, hy153⟩ : ∃ y_ : List (S118), y_ = (l0.drop ((ji8) : Int).toNat) := ⟨_, rfl⟩
              replace H : (if y150.length + y153.length < 4398046511104 then (some (y150 ++ y153)) else (none)) = some r := by first | (rw [hy153]; with_reducible exact H) | (have H2_ := (Option.bind_some _ _).symm.trans H; rw [hy153]; with_reducible exact H2_) | (have H2_ := (Option.bind_some _ _).symm.trans H; with_reducible exact H2_) | with_reducible exact H | (rw [hy153]; exact H) | exact H
              have Ny153 := Aside0.mk hy153
              clear hy153
              by_cases c11 : y150.length + y153.length < 4398046511104
              · rw [if_pos c11] at H
                have LMc11 := Aside0.mk c11
                clear c11
                obtain ⟨y158, hy158⟩ : ∃ y_ : List (S118), y_ = (y150 ++ y153) := ⟨_, rfl⟩
                replace H : (some y158) = some r := by first | (rw [hy158]; with_reducible exact H) | (have H2_ := (Option.bind_some _ _).symm.trans H; rw [hy158]; with_reducible exact H2_) | (have H2_ := (Option.bind_some _ _).symm.trans H; with_reducible exact H2_) | with_reducible exact H | (rw [hy158]; exact H) | exact H
                have Ny158 := Aside0.mk hy158
                clear hy158
                obtain rfl := Option.some.inj H
                go_enter Try.func111, Try.ntmps111
                go_wp2_with (first | ((with_reducible refine gate_callee (f := 97) rfl ?_); refine goesL_ (some 11) rfl rfl Try.func97 (by kernel_rfl) rfl #[.slice A0 l0.length c0, .string a1] rfl (by (try simp only [List.map_toArray, List.map_cons, List.map_nil]); first | done | rfl | (simp only [List.length_drop, List.length_take]; rfl)) ?_; (with_reducible refine (hawserref12_place.calls k _ _ l0 a1 t143 true _ ?side1 ?side2 A3.out).mono ?_); (case side1 => repeat (first | exact (Kd.V_reads' HO0.out).2.2 | (with_reducible refine Kd.C_alloc ?_ _) | (with_reducible refine Kd.C_drewN ?_ _) | (with_reducible refine Kd.C_drew ?_))); (case side2 => exact (Kd.V_reads' HO0.out).2.1); rintro e w' ⟨rfl, ⟨nd, rfl⟩⟩; refine ⟨_, rfl, ?_⟩; have q12 : (t143 : Int) ≤ ((l0.length : Int) : Int) := of_decide_eq_true (by first | (with_reducible assumption) | assumption); obtain ⟨i012, hi012, _, hsz12, _⟩ := info_parts info118; have hroom12 : l0.length ≤ c0 := (Kd.V_reads' HO0.out).2.1; have hC12 : Kd.F k118 _ _ A0 l0.length l0 := (Kd.V_at (base := w.heap.size) HO0.out).2.2; have hcut12 := cut_to (P := Try.prog) 58 118 .i64 Try.underlying58 hi012 A0 l0.length c0 t143 (of_decide_eq_true (by first | (with_reducible assumption) | assumption)) q12 hroom12; have hr12 := Kd.F_take (m := (t143 : Int).toNat) hC12 (by omega); have hy12 : y145.length = (t143 : Int).toNat := (by rw [Ny145.out, List.length_take]; omega); rw [← Ny145.out] at hr12; rw [← hy12] at hcut12; have HO149 := Aside0.mk (show Kd.V k118 118 _ w.heap.size _ (.slice A0 y145.length c0) y145 from Kd.V_mk (by omega) hr12); have HC149 := Aside0.mk (show y145.length ≤ c0 from by omega); clear hr12 hC12 hroom12 hi012 hsz12; have KY12 := Aside0.mk hy12; clear hy12; replace q12 := eq_true q12) | ((with_reducible refine gate_builtin (b := .append) (xs := #[.const (.slice none 0 0), .tmp 19]) rfl ?_); at_builtin; refine Kd.R_append_rows k118 (w0 := w) w.heap.size rfl (.const (.slice none 0 0)) (.tmp 19) 58 118 (.agg #[(.string ⟨#[]⟩), (.string ⟨#[]⟩)]) 32 rfl Try.underlying58 info118 rfl (by decide) (by omega) (.slice none 0 0) ([] : List (S118)) y145 _ _ _ (fun k_ => (w.heap.size ≤ k_)) (fun _ => False) rfl rfl ?aO ?aR (fun _ _ h => h) (fun _ h => h.elim) ?aF ?aB ?aS ?aL ?_; (case aR => repeat (first | exact (Kd.V_reads' HO149.out).2.2 | (with_reducible refine Kd.C_alloc ?_ _) | (with_reducible refine Kd.C_drewN ?_ _) | (with_reducible refine Kd.C_drew ?_))); (case aB => exact (by repeat (first | (with_reducible first | exact HB.out | apply below_alloc | apply pw_below_drewN | apply below_drew1) | exact HB.out))); (case aF => exact (fun k_ hk => (Nat.le_trans (below_size (by repeat (first | (with_reducible first | exact HB.out | apply below_alloc | apply pw_below_drewN | apply below_drew1) | exact HB.out))) hk))); (case aO => exact ((Kd.R_nil _ _ _ _ (fun k_ => (w.heap.size ≤ k_))))); (case aS => exact (below_size (by repeat (first | (with_reducible first | exact HB.out | apply below_alloc | apply pw_below_drewN | apply below_drew1) | exact HB.out)))); (case aL => have := LMc7.out; omega); intro v151 w13 ho hb hg hat; rw [← Ny150.out] at ho; have n0_ := Aside0.mk (Kd.V_afterv (Kd.V_apart_nil (by (with_reducible repeat (first | apply Kd.V_alloc | apply Kd.V_drewN | apply Kd.V_drew)); exact HO0.out)) hg hat); have n1_ := Aside0.mk (Kd.V_afterv (Kd.V_apart_nil (by (with_reducible repeat (first | apply Kd.V_alloc | apply Kd.V_drewN | apply Kd.V_drew)); exact HO149.out)) hg hat); have n2_ := Aside0.mk (hb); have n3_ := Aside0.mk (ho); clear HO0; clear HO149; clear HB; have HO0 := n0_; have HO149 := n1_; have HB := n2_; have HO152 := n3_; clear n0_ n1_ n2_ n3_; clear ho hb hg hat; have q14 : ((ji8) : Int) ≤ ((l0.length : Int) : Int) := of_decide_eq_true (by first | (with_reducible assumption) | assumption); obtain ⟨i014, hi014, _, hsz14, _⟩ := info_parts info118; have hroom14 : l0.length ≤ c0 := (Kd.V_reads' HO0.out).2.1; have hC14 : Kd.F k118 _ _ A0 l0.length l0 := (Kd.V_at (base := w.heap.size) HO0.out).2.2; have q014 : (0 : Int) ≤ ((ji8) : Int) := of_decide_eq_true (by first | (with_reducible assumption) | assumption); have hcut14 := cut_from (P := Try.prog) 58 118 .i64 Try.underlying58 hi014 2 hsz14 A0 l0.length c0 (ji8) q014 q14; have hr14 := Kd.F_cut (m := ((ji8) : Int).toNat) (c := c0) hC14 (by omega) hroom14; obtain ⟨A14, hA14⟩ : ∃ A1, A1 = (if c0 = ((ji8) : Int).toNat then A0 else (A0 : Option Addr).map (·.add (((ji8) : Int).toNat * 2))) := ⟨_, rfl⟩; obtain ⟨c14, hc14⟩ : ∃ c1, c1 = c0 - ((ji8) : Int).toNat := ⟨_, rfl⟩; have hy14 : y153.length = l0.length - ((ji8) : Int).toNat := (by rw [Ny153.out, List.length_drop] <;> omega); rw [show (l0).drop ((ji8) : Int).toNat = y153 from Ny153.out.symm] at hr14; replace hr14 : Kd.F k118 _ _ A14 y153.length y153 := (by rw [hA14]; exact hr14); rw [← hy14, ← hA14, ← hc14] at hcut14; have HO157 := Aside0.mk (show Kd.V k118 118 _ w.heap.size _ (.slice A14 y153.length c14) y153 from Kd.V_mk (by rw [hy14, hc14]; exact Nat.sub_le_sub_right hroom14 _) hr14); have HC157 := Aside0.mk (show y153.length ≤ c14 from by rw [hy14, hc14]; exact Nat.sub_le_sub_right hroom14 _); clear hr14 hC14 hroom14 hi014 hsz14 hc14; have KY14 := Aside0.mk hy14; have KA14 := Aside0.mk hA14; clear hy14 hA14; replace q14 := eq_true q14) | ((with_reducible refine gate_builtin (b := .append) (xs := #[.tmp 21, .tmp 25]) rfl ?_); at_builtin; refine Kd.R_append_rows k118 (w0 := w) w.heap.size rfl (.tmp 21) (.tmp 25) 58 118 (.agg #[(.string ⟨#[]⟩), (.string ⟨#[]⟩)]) 32 rfl Try.underlying58 info118 rfl (by decide) (by omega) v151 y150 y153 _ _ _ (fun k_ => (w.heap.size ≤ k_)) (fun _ => False) rfl rfl ?aO ?aR (fun _ _ h => h) (fun _ h => h.elim) ?aF ?aB ?aS ?aL ?_; (case aR => repeat (first | exact (Kd.V_reads' HO157.out).2.2 | (with_reducible refine Kd.C_alloc ?_ _) | (with_reducible refine Kd.C_drewN ?_ _) | (with_reducible refine Kd.C_drew ?_))); (case aB => exact (by repeat (first | (with_reducible first | exact HB.out | apply below_alloc | apply pw_below_drewN | apply below_drew1) | exact HB.out))); (case aF => exact (fun k_ hk => (Nat.le_trans (below_size (by repeat (first | (with_reducible first | exact HB.out | apply below_alloc | apply pw_below_drewN | apply below_drew1) | exact HB.out))) hk))); (case aO => exact (by (with_reducible repeat (first | apply Kd.R_alloc | apply Kd.R_drewN | apply Kd.R_drew)); exact HO152.out)); (case aS => exact (below_size (by repeat (first | (with_reducible first | exact HB.out | apply below_alloc | apply pw_below_drewN | apply below_drew1) | exact HB.out)))); (case aL => have := LMc11.out; omega); intro v159 w15 ho hb hg hat; rw [← Ny158.out] at ho; have n0_ := Aside0.mk (Kd.V_afterv (ok := (fun k_ => (P0_ k_ ∨ w.heap.size ≤ k_))) (by (with_reducible repeat (first | apply Kd.V_alloc | apply Kd.V_drewN | apply Kd.V_drew)); exact HO0.out) hg hat); have n1_ := Aside0.mk (Kd.V_afterv (ok := (fun k_ => (P0_ k_ ∨ w.heap.size ≤ k_))) (by (with_reducible repeat (first | apply Kd.V_alloc | apply Kd.V_drewN | apply Kd.V_drew)); exact HO149.out) hg hat); have n2_ := Aside0.mk (Kd.V_afterv (ok := (fun k_ => (P0_ k_ ∨ w.heap.size ≤ k_))) (by (with_reducible repeat (first | apply Kd.V_alloc | apply Kd.V_drewN | apply Kd.V_drew)); exact HO157.out) hg hat); have n3_ := Aside0.mk (hb); have n4_ := Aside0.mk (ho); clear HO0; clear HO149; clear HO157; clear HB; clear HO152; have HO0 := n0_; have HO149 := n1_; have HO157 := n2_; have HB := n3_; have HO160 := n4_; clear n0_ n1_ n2_ n3_ n4_; clear ho hb hg hat))
                go_ret
                exact ⟨_, by first | rfl | (simp [errW_none, errW_some] <;> rfl) | (simp only [← hji8]; first | rfl | (simp [errW_none, errW_some] <;> rfl)) | (simp [*, errW_none, errW_some] <;> rfl), Kd.V_mono (Kd.R_V (by (with_reducible repeat (first | apply Kd.R_alloc | apply Kd.R_drewN | apply Kd.R_drew)); exact HO160.out)) (fun k_ hk => by first | exact ⟨(.inr (hk.1)), hk.2⟩ | exact (.inr (hk))), by repeat (first | (with_reducible first | exact HB.out | apply below_alloc | apply pw_below_drewN | apply below_drew1) | exact HB.out)⟩
              · rw [if_neg c11] at H
                exact absurd H (by simp)
            · rw [if_neg c10] at H
              exact absurd H (by simp)
          · rw [if_neg c9] at H
            exact absurd H (by simp)
        · rw [if_neg c7] at H
          exact absurd H (by simp)
      · rw [if_neg c6] at H
        exact absurd H (by simp)
    · rw [if_neg c5] at H
      exact absurd H (by simp)
  · replace c4 := Bool.eq_false_iff.mpr c4
    subst c4
    have H1 : (some l0) = some r := by rw [if_neg (show ¬ (false = true) by decide)] at H; exact H
    clear H
    have H := H1
    clear H1
    obtain rfl := Option.some.inj H
    go_enter Try.func111, Try.ntmps111
    go_wp2_with (first | ((with_reducible refine gate_callee (f := 97) rfl ?_); refine goesL_ (some 11) rfl rfl Try.func97 (by kernel_rfl) rfl #[.slice A0 l0.length c0, .string a1] rfl (by (try simp only [List.map_toArray, List.map_cons, List.map_nil]); first | done | rfl | (simp only [List.length_drop, List.length_take]; rfl)) ?_; (with_reducible refine (hawserref12_place.calls k _ _ l0 a1 t143 false _ ?side1 ?side2 A3.out).mono ?_); (case side1 => repeat (first | exact (Kd.V_reads' HO0.out).2.2 | (with_reducible refine Kd.C_alloc ?_ _) | (with_reducible refine Kd.C_drewN ?_ _) | (with_reducible refine Kd.C_drew ?_))); (case side2 => exact (Kd.V_reads' HO0.out).2.1); rintro e w' ⟨rfl, ⟨nd, rfl⟩⟩; refine ⟨_, rfl, ?_⟩))
    go_ret
    exact ⟨_, by first | rfl | (simp [errW_none, errW_some] <;> rfl) | (simp [*, errW_none, errW_some] <;> rfl), by (with_reducible repeat (first | apply Kd.V_alloc | apply Kd.V_drewN | apply Kd.V_drew)); exact HO0.out, by repeat (first | (with_reducible first | exact HB.out | apply below_alloc | apply pw_below_drewN | apply below_drew1) | exact HB.out)⟩

/-! ### hawserref12_done: function 102 -/
def hawserref12_done.f (k : Nat) (l0 : List S118) (kd : Int) (nm to_ : ByteArray) (ch sz : Int) : Option (List S118) := (hawserref12_place.f k l0 nm).bind fun p => if kd = 1 then hawserref12_with.f k l0 nm ⟨#[]⟩ else if p.2 = false then some l0 else if 0 ≤ p.1 ∧ p.1 < (l0.length : Int) then (if kd = 2 then (if (rd_T118 l0 p.1).f1.size + (strOfNums [ch]).size ≤ 1099511627776 then hawserref12_with.f k l0 nm ((rd_T118 l0 p.1).f1 ++ strOfNums [ch]) else none) else if kd = 3 then (if 0 ≤ sz ∧ sz ≤ ((rd_T118 l0 p.1).f1.size : Int) then hawserref12_with.f k l0 nm ((rd_T118 l0 p.1).f1.extract 0 sz.toNat) else none) else if kd = 4 then (hawserref12_without.f k l0 nm).bind fun y => hawserref12_with.f k y to_ (rd_T118 l0 p.1).f1 else hawserref12_without.f k l0 nm) else none
theorem hawserref12_done.mono : ∀ a0 a1 a2 a3 a4 a5 k, LeO (hawserref12_done.f k a0 a1 a2 a3 a4 a5) (hawserref12_done.f (k + 1) a0 a1 a2 a3 a4 a5) := by
  intro a0 a1 a2 a3 a4 a5 k
  unfold hawserref12_done.f
  repeat' first
      | (with_reducible exact hawserref12_place.mono _ _ _)
      | (with_reducible exact hawserref12_with.mono _ _ _ _)
      | (with_reducible exact hawserref12_without.mono _ _ _)
      | (with_reducible exact LeO.refl _)
      | (with_reducible exact LeO.none _)
      | (with_reducible refine LeO.ite ?_ ?_)
      | (with_reducible refine LeO.bind ?_ (fun _ => ?_))
      | exact LeO.none _
section
open Go.Proofs.Ytidijiijciokpaa.Blocks Go.Proofs.Ytidijiijciokpaa.G Go.Proofs.Ytidijiijciokpaa.G.Frm Go.Proofs.Ytidijiijciokpaa.G.Gd
set_option maxRecDepth 100000
theorem hawserref12_done.v_of_R {B : Nat} {w2 w' : World} {P : Nat → Prop} {v : Value} {r : List S118} (hB : B ≤ w2.heap.size) (h : Kd.R k118 118 w' w2.heap.size (fun _ => True) v r) : Kd.V k118 118 w' B (fun j => P j ∨ B ≤ j) v r := by
  obtain ⟨A, c, e⟩ := Kd.R_slice h
  subst e
  exact Kd.V_mk (Kd.R_reads' h).2.1 (Kd.F_mono (Kd.R_F (Kd.R_bound h)) fun j hj => .inr (Nat.le_trans hB hj.2.1))
set_option maxHeartbeats 8000000 in
theorem hawserref12_done.calls (k : Nat) (P0_ : Nat → Prop) (A0 : Option Addr) (c0 : Nat) (l0 : List S118) (a1_0 : Int) (a1_1 a1_2 : ByteArray) (a1_3 a1_4 : Int) (r : List S118) (w : World) (hs0 : Kd.V k118 118 w w.heap.size (fun k_ => P0_ k_) (.slice A0 l0.length c0) l0) (h : hawserref12_done.f k l0 a1_0 a1_1 a1_2 a1_3 a1_4 = some r) :
    Calls Try.prog 102 #[.slice A0 l0.length c0, .agg #[.int .i64 a1_0, .string a1_1, .string a1_2, .int .u8 a1_3, .int .i64 a1_4]] w fun e w' => ∃ v0_ : Value, e = .returned (v0_) ∧ Kd.V k118 118 w' w.heap.size (fun k_ => (P0_ k_ ∨ w.heap.size ≤ k_)) v0_ r ∧ Below w.heap.size w w' := by
  obtain ⟨⟨i, th⟩, hp, h2⟩ := Option.bind_eq_some_iff.1 h
  clear h
  dsimp only at h2
  have hV := Kd.V_at hs0
  have HB := Aside0.mk (below_alloc (Below.refl w.heap.size w) (.cells #[.int .i64 a1_0, .string a1_1, .string a1_2, .int .u8 a1_3, .int .i64 a1_4] 145))
  have HX := Aside0.mk (blk_new w (.cells #[.int .i64 a1_0, .string a1_1, .string a1_2, .int .u8 a1_3, .int .i64 a1_4] 145))
  have HV := Aside0.mk (Kd.V_below hs0 HB.out)
  have HC := Aside0.mk (And.intro hV.2.1 (Kd.C_below (Kd.F_now hV.2.2) HB.out))
  have HP := Aside0.mk hp
  have HF := Aside0.mk h2
  clear hV hs0 hp h2
  go_enter Try.func102, Try.ntmps102
  go_upto_region 1 with fail
  generalize w.alloc _ = w1 at HB HX HV HC ⊢
  have c0' : w1.cell? ⟨w.heap.size, 0, none⟩ = some (.int .i64 a1_0) := blk_cell HX.out 0
  have c1' : w1.cell? ⟨w.heap.size, 1, none⟩ = some (.string a1_1) := blk_cell HX.out 1
  go_upto_region 2 with (first
    | (go_at_call 97; refine Calls.mono (hawserref12_place.calls k A0 c0 l0 a1_1 i th w1 HC.out.2 HC.out.1 HP.out) ?_; rintro e w2 ⟨rfl, hb⟩; (have HB2 := Aside0.mk hb); clear hb)
    | fail)
  have HB3 := Aside0.mk (HB.out.trans (below_w (Drawn0.below HB2.out) HB.out.size))
  have HX3 := Aside0.mk (blk_below HX.out (Drawn0.below HB2.out))
  have HV3 := Aside0.mk (Kd.V_below HV.out (Drawn0.below HB2.out))
  have HC3 := Aside0.mk (Kd.C_below HC.out.2 (Drawn0.below HB2.out))
  clear HB2 HB HX HV c0' c1'
  clear HP
  have c0' : w2.cell? ⟨w.heap.size, 0, none⟩ = some (.int .i64 a1_0) := blk_cell HX3.out 0
  have c1' : w2.cell? ⟨w.heap.size, 1, none⟩ = some (.string a1_1) := blk_cell HX3.out 1
  have c2' : w2.cell? ⟨w.heap.size, 2, none⟩ = some (.string a1_2) := blk_cell HX3.out 2
  have c3' : w2.cell? ⟨w.heap.size, 3, none⟩ = some (.int .u8 a1_3) := blk_cell HX3.out 3
  have c4' : w2.cell? ⟨w.heap.size, 4, none⟩ = some (.int .i64 a1_4) := blk_cell HX3.out 4
  by_cases k1 : a1_0 = 1
  · subst k1
    have hf := HF.out
    rw [if_pos rfl] at hf
    have HF2 := Aside0.mk hf
    clear hf HF
    go_wp2_with (first
      | (go_at_call 99; refine Calls.mono (hawserref12_with.calls k A0 c0 l0 a1_1 ⟨#[]⟩ r w2 HC3.out HC.out.1 HF2.out) ?_; rintro e w4 ⟨v, rfl, h1, h2⟩; (have HR := Aside0.mk (And.intro h1 h2)); clear h1 h2)
      | fail)
    go_ret
    exact ⟨_, rfl, hawserref12_done.v_of_R (P := P0_) HB3.out.size HR.out.1, HB3.out.trans (below_w HR.out.2 HB3.out.size)⟩
  · have k1' : (a1_0 == 1) = false := beq_false_of_ne k1
    have hf := HF.out
    rw [if_neg k1] at hf
    clear HF
    rcases th with _ | _
    · rw [if_pos rfl] at hf
      obtain rfl := Option.some.inj hf
      clear hf k1
      go_wp2_with fail
      go_ret
      exact ⟨_, rfl, Kd.V_mono HV3.out (fun j hj => .inl hj), HB3.out⟩
    · rw [if_neg (by simp)] at hf
      by_cases hi : 0 ≤ i ∧ i < (l0.length : Int)
      · rw [if_pos hi] at hf
        obtain ⟨hi0, hi1⟩ := hi
        obtain ⟨ad, rfl, x0, x1⟩ := at_T118 HC3.out i hi0 hi1
        have HF2 := Aside0.mk hf
        clear hf k1
        generalize rd_T118 l0 i = fl at x0 x1 HF2
        by_cases k2 : a1_0 = 2
        · subst k2
          have hf := HF2.out
          rw [if_pos rfl] at hf
          by_cases hsz : fl.f1.size + (strOfNums [a1_3]).size ≤ 1099511627776
          rotate_left
          · rw [if_neg hsz] at hf; cases hf
          rw [if_pos hsz] at hf
          have HF3 := Aside0.mk hf
          clear hf HF2
          have hsz' : ¬ 9223372036854775807 < fl.f1.size + (strOfNums [a1_3]).size := by omega
          go_upto_region 7 with fail
          have hz := fun a u (h : w2.cell? a = some u) => pw_cell_below (below_alloc (Below.refl w2.heap.size w2) (.cells #[.int .u8 a1_3] 5)) h
          have x1z := hz _ _ x1
          have c1z := hz _ _ c1'
          clear hz
          have hcv : (convert 31 9 (.slice (some ⟨w2.heap.size, 0, none⟩) 1 1)).run Try.prog (w2.alloc (.cells #[.int .u8 a1_3] 5)).drew = .ok (.string (strOfNums [a1_3])) (w2.alloc (.cells #[.int .u8 a1_3] 5)).drew :=
            Kd.C_string (P := Try.prog) (c := 1) Try.underlying31 Try.underlying5 Try.underlying9 (Kd.C_below (C_of_blk (k := .u8) (L := [a1_3]) (o := 0) (n := 1) (blk_new w2 _) (by simp) (by simp)) (Drawn0.below (w := w2.alloc _) (w' := (w2.alloc _).drew) ⟨1, rfl⟩))
          have HB6 := Aside0.mk (show Below w2.heap.size w2 (w2.alloc (.cells #[.int .u8 a1_3] 5)).drew from below_drew (below_alloc (Below.refl w2.heap.size w2) _))
          have HC6 := Aside0.mk (Kd.C_below HC3.out HB6.out)
          have HB7 := Aside0.mk (HB3.out.trans (below_w HB6.out HB3.out.size))
          go_region_law (first
            | (go_simp; go_at_call 99; refine Calls.mono (hawserref12_with.calls k (some ad) c0 l0 a1_1 _ r _ HC6.out HC.out.1 ?hh) ?_; rotate_left; (rintro e w6 ⟨v, rfl, h1, h2⟩; (have HR := Aside0.mk (And.intro h1 h2)); clear h1 h2); (case hh => with_reducible exact HF3.out))
            | fail)
          all_goals
            go_wp2_with fail
            go_ret
            exact ⟨_, rfl, hawserref12_done.v_of_R (P := P0_) HB7.out.size HR.out.1, HB7.out.trans (below_w HR.out.2 HB7.out.size)⟩
        · have k2' : (a1_0 == 2) = false := beq_false_of_ne k2
          by_cases k3 : a1_0 = 3
          · subst k3
            have hf := HF2.out
            rw [if_neg (by decide), if_pos rfl] at hf
            by_cases hs : 0 ≤ a1_4 ∧ a1_4 ≤ (fl.f1.size : Int)
            · rw [if_pos hs] at hf
              obtain ⟨s0, s1⟩ := hs
              have HF3 := Aside0.mk hf
              clear hf HF2
              go_upto_region 9 with fail
              go_still_tail 12, (by kernel_rfl)
              have HB5 := Aside0.mk (HB3.out.trans (below_w (Drawn0.below (w := w2) (w' := w2.drew) ⟨1, rfl⟩) HB3.out.size))
              have HC5 := Aside0.mk (Kd.C_below HC3.out (Drawn0.below (w := w2) (w' := w2.drew) ⟨1, rfl⟩))
              change wpList _ _ _ _ _ w2.drew
              generalize w2.drew = w5 at HB5 HC5 ⊢
              go_wp2_with (first
                | (go_at_call 99; refine Calls.mono (hawserref12_with.calls k (some ad) c0 l0 a1_1 (fl.f1.extract 0 a1_4.toNat) r w5 HC5.out HC.out.1 HF3.out) ?_; rintro e w6 ⟨v, rfl, h1, h2⟩; (have HR := Aside0.mk (And.intro h1 h2)); clear h1 h2)
                | fail)
              go_ret
              exact ⟨_, rfl, hawserref12_done.v_of_R (P := P0_) HB5.out.size HR.out.1, HB5.out.trans (below_w HR.out.2 HB5.out.size)⟩
            · rw [if_neg hs] at hf; cases hf
          · have k3' : (a1_0 == 3) = false := beq_false_of_ne k3
            by_cases k4 : a1_0 = 4
            · subst k4
              have hf := HF2.out
              rw [if_neg (by decide), if_neg (by decide), if_pos rfl] at hf
              obtain ⟨y, hy, hz⟩ := Option.bind_eq_some_iff.1 hf
              have HF3 := Aside0.mk (And.intro hy hz)
              clear hf hy hz HF2
              go_upto_region 11 with fail
              have hz := fun a u (h : w2.cell? a = some u) => pw_cell_below (below_alloc (Below.refl w2.heap.size w2) (.cells #[.string ⟨#[]⟩, .string ⟨#[]⟩] 118)) h
              have x1z := hz _ _ x1
              have c2z := hz _ _ c2'
              have fz0 : (w2.alloc (.cells #[.string ⟨#[]⟩, .string ⟨#[]⟩] 118)).frozen? ⟨w2.heap.size, 0, none⟩ = false := blk_frozen (blk_new w2 _) 0
              have fz1 : (w2.alloc (.cells #[.string ⟨#[]⟩, .string ⟨#[]⟩] 118)).frozen? ⟨w2.heap.size, 1, none⟩ = false := blk_frozen (blk_new w2 _) 1
              clear hz
              have HBx := Aside0.mk (show Below w2.heap.size w2 (w2.alloc (.cells #[.string a1_2, .string fl.f1] 118)).drew from below_drew (below_alloc (Below.refl w2.heap.size w2) _))
              have HXx := Aside0.mk (blk_below (blk_new w2 (.cells #[.string a1_2, .string fl.f1] 118)) (Drawn0.below (w := w2.alloc _) (w' := (w2.alloc _).drew) ⟨1, rfl⟩))
              have HV6 := Aside0.mk (Kd.V_below HV3.out HBx.out)
              have HX6 := Aside0.mk (blk_below HX3.out HBx.out)
              have HB6 := Aside0.mk (HB3.out.trans (below_w HBx.out HB3.out.size))
              go_region_law (fail)
              all_goals
                clear x1z c2z fz0 fz1 c0' c1' c2' c3' c4' x0 x1
                generalize (w2.alloc (.cells #[.string a1_2, .string fl.f1] 118)).drew = w5 at HBx HXx HV6 HX6 HB6 ⊢
                have c1' : w5.cell? ⟨w.heap.size, 1, none⟩ = some (.string a1_1) := blk_cell HX6.out 1
                go_upto_region 12 with fail
                have p0 : w5.cell? ⟨w2.heap.size, 0, none⟩ = some (.string a1_2) := blk_cell HXx.out 0
                have p1 : w5.cell? ⟨w2.heap.size, 1, none⟩ = some (.string fl.f1) := blk_cell HXx.out 1
                have HD5 := Aside0.mk (show Below w5.heap.size w5 w5.drew from below_drew (Below.refl _ _))
                go_region_law (first
                  | (go_simp; go_at_call 111; refine Calls.mono (hawserref12_without.calls k P0_ (some ad) c0 l0 a1_1 y w5.drew (Kd.V_below HV6.out HD5.out) HF3.out.1) ?_; rintro e w6 ⟨v, rfl, h1, h2⟩; obtain ⟨A7, c7, ev⟩ := Kd.V_slice h1; subst ev; (have H7 := Aside0.mk (And.intro h1 h2)); (have q0 : w6.cell? ⟨w2.heap.size, 0, none⟩ = some (.string a1_2) := blk_cell (blk_below (blk_below HXx.out HD5.out) h2) 0); (have q1 : w6.cell? ⟨w2.heap.size, 1, none⟩ = some (.string fl.f1) := blk_cell (blk_below (blk_below HXx.out HD5.out) h2) 1); clear h1 h2)
                  | (go_simp; go_at_call 99; refine Calls.mono (hawserref12_with.calls k A7 c7 y a1_2 fl.f1 r w6 (Kd.V_reads' H7.out.1).2.2 (Kd.V_reads' H7.out.1).2.1 HF3.out.2) ?_; rintro e w7 ⟨v, rfl, h1, h2⟩; (have HR := Aside0.mk (And.intro h1 h2)); clear h1 h2)
                  | fail)
                all_goals
                  go_wp2_with fail
                  go_ret
                  have hb0 := HB6.out.trans (below_w HD5.out HB6.out.size)
                  have hb := hb0.trans (below_w H7.out.2 hb0.size)
                  exact ⟨_, rfl, hawserref12_done.v_of_R (P := P0_) hb.size HR.out.1, hb.trans (below_w HR.out.2 hb.size)⟩
            · have k4' : (a1_0 == 4) = false := beq_false_of_ne k4
              have hf := HF2.out
              rw [if_neg k2, if_neg k3, if_neg k4] at hf
              have HF3 := Aside0.mk hf
              clear hf HF2 k2 k3 k4
              go_wp2_with (first
                | (go_at_call 111; refine Calls.mono (hawserref12_without.calls k P0_ (some ad) c0 l0 a1_1 r w2 HV3.out HF3.out) ?_; rintro e w4 ⟨v, rfl, h1, h2⟩; (have HR := Aside0.mk (And.intro h1 h2)); clear h1 h2)
                | fail)
              go_ret
              exact ⟨_, rfl, Kd.V_mono HR.out.1 (fun j hj => hj.imp id (fun q => Nat.le_trans HB3.out.size q)), HB3.out.trans (below_w HR.out.2 HB3.out.size)⟩
      · rw [if_neg hi] at hf; cases hf
end

/-! ### hawserref12_Disk_Left: function 72 -/
def hawserref12_Disk_Left.l0 : Nat → Int → List (S118) → Int → Int → List (S118) → List (S145) → Int → Int → Bool → Option ((List (S118)))
  | 0, _, _, _, _, _, _, _, _, _ => none
  | k + 1, x1, x5, x6, x162000, x162001, x162002, x162003, x162004, x162005 => if x6 < (x162002.length : Int) then (if x6 < x1 then (if 0 ≤ x6 then ((hawserref12_done.f k x5 ((rd_T145 x162002 x6).f0) ((rd_T145 x162002 x6).f1) ((rd_T145 x162002 x6).f2) ((rd_T145 x162002 x6).f3) ((rd_T145 x162002 x6).f4)).bind fun t163 => (hawserref12_Disk_Left.l0 k x1 t163 (wrap64 (x6 + 1)) x162000 x162001 x162002 x162003 x162004 x162005)) else (none)) else (some x5)) else (some x5)
def hawserref12_Disk_Left.f (k : Nat) (a0_0 : Int) (l0_1 : List (S118)) (l0_2 : List (S145)) (a0_3 : Int) (a0_4 : Int) (a0_5 : Bool) (a1 : Int) : Option ((List (S118))) := hawserref12_Disk_Left.l0 k a1 l0_1 0 a0_0 l0_1 l0_2 a0_3 a0_4 a0_5
theorem hawserref12_Disk_Left.mono_l : ∀ k, (∀ y0 y1 y2 y3 y4 y5 y6 y7 y8, LeO (hawserref12_Disk_Left.l0 k y0 y1 y2 y3 y4 y5 y6 y7 y8) (hawserref12_Disk_Left.l0 (k + 1) y0 y1 y2 y3 y4 y5 y6 y7 y8))
  | 0 => fun _ _ _ _ _ _ _ _ _ r h => by simp [hawserref12_Disk_Left.l0] at h
  | k + 1 => by
    have ih0 := hawserref12_Disk_Left.mono_l k
    · intro y0 y1 y2 y3 y4 y5 y6 y7 y8
      unfold hawserref12_Disk_Left.l0
      repeat' first
      | (with_reducible exact ih0 _ _ _ _ _ _ _ _ _)
      | (with_reducible exact hawserref12_done.mono _ _ _ _ _ _ _)
      | (with_reducible exact LeO.refl _)
      | (with_reducible exact LeO.none _)
      | (with_reducible refine LeO.ite ?_ ?_)
      | (with_reducible refine LeO.bind ?_ (fun _ => ?_))
      | exact ih0 _ _ _ _ _ _ _ _ _
      | exact hawserref12_done.mono _ _ _ _ _ _ _
      | exact LeO.none _
      | refine LeO.ite ?_ ?_
      | refine LeO.bind ?_ (fun _ => ?_)
theorem hawserref12_Disk_Left.mono : ∀ a0 a1 a2 a3 a4 a5 a6 k, LeO (hawserref12_Disk_Left.f k a0 a1 a2 a3 a4 a5 a6) (hawserref12_Disk_Left.f (k + 1) a0 a1 a2 a3 a4 a5 a6) := by
  intro a0 a1 a2 a3 a4 a5 a6 k
  have ih0 := hawserref12_Disk_Left.mono_l k
  unfold hawserref12_Disk_Left.f
  repeat' first
      | (with_reducible exact ih0 _ _ _ _ _ _ _ _ _)
      | (with_reducible exact hawserref12_done.mono _ _ _ _ _ _ _)
      | (with_reducible exact LeO.refl _)
      | (with_reducible exact LeO.none _)
      | (with_reducible refine LeO.ite ?_ ?_)
      | (with_reducible refine LeO.bind ?_ (fun _ => ?_))
      | exact ih0 _ _ _ _ _ _ _ _ _
      | exact hawserref12_done.mono _ _ _ _ _ _ _
      | exact LeO.none _
      | refine LeO.ite ?_ ?_
      | refine LeO.bind ?_ (fun _ => ?_)
set_option maxHeartbeats 8000000 in
set_option maxRecDepth 100000 in
theorem hawserref12_Disk_Left.calls (k : Nat) (a0_0 : Int) (P0_1_ : Nat → Prop) (A0_1 : Option Addr) (c0_1 : Nat) (l0_1 : List (S118)) (A0_2 : Option Addr) (c0_2 : Nat) (l0_2 : List (S145)) (a0_3 : Int) (a0_4 : Int) (a0_5 : Bool) (a1 : Int) (r : List (S118)) (w : World) (hs0_1 : Kd.V k118 118 w w.heap.size (fun k_ => P0_1_ k_) (.slice A0_1 l0_1.length c0_1) l0_1) (hr0_2 : Kd.C k145 w A0_2 l0_2.length l0_2) (hc0_2 : l0_2.length ≤ c0_2) (h : hawserref12_Disk_Left.f k a0_0 l0_1 l0_2 a0_3 a0_4 a0_5 a1 = some r) :
    Calls Try.prog 72 #[.agg #[.int .i64 a0_0, .slice A0_1 l0_1.length c0_1, .slice A0_2 l0_2.length c0_2, .int .i64 a0_3, .int .i64 a0_4, .bool a0_5], .int .i64 a1] w fun e w' => ∃ v0_ : Value, e = .returned (v0_) ∧ Kd.V k118 118 w' w.heap.size (fun k_ => (P0_1_ k_ ∨ w.heap.size ≤ k_)) v0_ r ∧ Below w.heap.size w w' := by
  have hu61 := Try.underlying61
  have hu145 := Try.underlying145
  have HO0_1 := Aside0.mk (show Kd.V k118 118 w w.heap.size (fun k_ => (P0_1_ k_ ∨ w.heap.size ≤ k_)) (.slice A0_1 l0_1.length c0_1) l0_1 from Kd.V_mono hs0_1 (fun k_ hk => .inl hk))
  have HR0_2 := Aside0.mk hr0_2
  have HC0_2 := Aside0.mk hc0_2
  clear hr0_2 hc0_2
  have HB := Aside0.mk (Below.refl w.heap.size w)
  have H : (hawserref12_Disk_Left.l0 k a1 l0_1 0 a0_0 l0_1 l0_2 a0_3 a0_4 a0_5) = some r := h
  clear h
  have H' := Aside0.mk H
  clear H
  go_enter Try.func72, Try.ntmps72
  go_wp2_with (first | ((with_reducible refine gate_dst (N := 2) rfl ?_); refine box_event ?hg (N := 2) ?hd (cs := #[.int .i64 a0_0, .slice A0_1 l0_1.length c0_1, .slice A0_2 l0_2.length c0_2, .int .i64 a0_3, .int .i64 a0_4, .bool a0_5]) (t := 61) ?hr ?_; (case hd => rfl); (case hg => rfl); (case hr => first | (go_simp; done) | (go_simp; rfl)); intro gb161 hg w3 hbox hb; have n0_ := Aside0.mk (Kd.V_below (Kd.V_elderB (by (with_reducible repeat (first | apply Kd.V_alloc | apply Kd.V_drewN | apply Kd.V_drew)); exact HO0_1.out) gb161 (Nat.le_of_eq hg.symm)) hb); have n1_ := Aside0.mk (below_step (by repeat (first | (with_reducible first | exact HB.out | apply below_alloc | apply pw_below_drewN | apply below_drew1) | exact HB.out)) hb); have n2_ := Aside0.mk (hbox); have n3_ := Aside0.mk ((by rw [hg]; exact (below_size (by repeat (first | (with_reducible first | exact HB.out | apply below_alloc | apply pw_below_drewN | apply below_drew1) | exact HB.out))) : w.heap.size ≤ gb161)); have n4_ := Aside0.mk ((by rw [hg]; exact (below_size (by repeat (first | (with_reducible first | exact HB.out | apply below_alloc | apply pw_below_drewN | apply below_drew1) | exact HB.out))) : w.heap.size ≤ gb161)); clear HO0_1; clear HB; have HO0_1 := n0_; have HB := n1_; have BK161 := n2_; have GW161 := n3_; have GE161 := n4_; clear n0_ n1_ n2_ n3_ n4_; clear hb hbox hg; have hcz4_0 : w3.cell? ⟨gb161, 0, none⟩ = some (.int .i64 a0_0) := (blk_cell BK161.out 0).trans rfl; have hcz4_1 : w3.cell? ⟨gb161, 1, none⟩ = some (.slice A0_1 l0_1.length c0_1) := (blk_cell BK161.out 1).trans rfl; have hcz4_2 : w3.cell? ⟨gb161, 2, none⟩ = some (.slice A0_2 l0_2.length c0_2) := (blk_cell BK161.out 2).trans rfl; have hcz4_3 : w3.cell? ⟨gb161, 3, none⟩ = some (.int .i64 a0_3) := (blk_cell BK161.out 3).trans rfl; have hcz4_4 : w3.cell? ⟨gb161, 4, none⟩ = some (.int .i64 a0_4) := (blk_cell BK161.out 4).trans rfl; have hcz4_5 : w3.cell? ⟨gb161, 5, none⟩ = some (.bool a0_5) := (blk_cell BK161.out 5).trans rfl; have hfz4_0 := blk_frozen BK161.out 0; have hfz4_1 := blk_frozen BK161.out 1; have hfz4_2 := blk_frozen BK161.out 2; have hfz4_3 := blk_frozen BK161.out 3; have hfz4_4 := blk_frozen BK161.out 4; have hfz4_5 := blk_frozen BK161.out 5))
  go_loopg [5, 6] k (fun kq v5 v6 w' => ∃ (x5_1 : List (S118)) (x6_1 : Int), v6 = .int .i64 x6_1 ∧ Aside0 (hawserref12_Disk_Left.l0 kq a1 x5_1 x6_1 a0_0 l0_1 l0_2 a0_3 a0_4 a0_5 = some r) ∧ Aside0 (kq ≤ k) ∧ Aside0 (Kd.V k118 118 w' w.heap.size (fun k_ => (P0_1_ k_ ∨ w.heap.size ≤ k_) ∧ k_ ≠ gb161) v5 x5_1) ∧ Aside0 (Kd.V k118 118 w' w.heap.size (fun k_ => (P0_1_ k_ ∨ w.heap.size ≤ k_) ∧ k_ ≠ gb161) (.slice A0_1 l0_1.length c0_1) l0_1) ∧ Aside0 (w'.heap[gb161]? = some (.cells #[.int .i64 a0_0, (.slice A0_1 l0_1.length c0_1), (.slice A0_2 l0_2.length c0_2), .int .i64 a0_3, .int .i64 a0_4, .bool a0_5] 61 (0, 0))) ∧ Aside0 (Below w.heap.size w w'))
  case atStart => exact ⟨(l0_1), (0), (by first | rfl | (simp; done) | (simp [*]; done)), H', ⟨Nat.le_refl _⟩, ⟨by (with_reducible repeat (first | apply Kd.V_alloc | apply Kd.V_drewN | apply Kd.V_drew)); exact HO0_1.out⟩, ⟨by (with_reducible repeat (first | apply Kd.V_alloc | apply Kd.V_drewN | apply Kd.V_drew)); exact HO0_1.out⟩, ⟨by (with_reducible repeat (first | refine blk_drewN ?_ _ | refine blk_drew ?_ | refine blk_alloc ?_ _)); exact BK161.out⟩, ⟨by repeat (first | (with_reducible first | exact HB.out | apply below_alloc | apply pw_below_drewN | apply below_drew1 | refine below_set ?_ GE161.out) | exact HB.out)⟩⟩
  case round =>
    clear H'
    try clear p2
    try clear hcz4_0
    try clear hcz4_1
    try clear hcz4_2
    try clear hcz4_3
    try clear hcz4_4
    try clear hcz4_5
    try clear hfz4_0
    try clear hfz4_1
    try clear hfz4_2
    try clear hfz4_3
    try clear hfz4_4
    try clear hfz4_5
    obtain ⟨x5_1, x6_1, rfl, HA, HK1, HO_5, HO_162001, BK161, HB⟩ := hrel
    cases gk with
    | zero => exact absurd HA.out (by simp [hawserref12_Disk_Left.l0])
    | succ k1 =>
      have H := HA.out
      clear HA
      simp only [hawserref12_Disk_Left.l0] at H
      by_cases c5 : x6_1 < (l0_2.length : Int)
      · rw [if_pos c5] at H
        have c5b0 : decide (x6_1 < (l0_2.length : Int)) = true := decide_eq_true c5
        clear c5
        by_cases c6 : x6_1 < a1
        · rw [if_pos c6] at H
          have c6b0 : decide (x6_1 < a1) = true := decide_eq_true c6
          clear c6
          by_cases c7 : 0 ≤ x6_1
          · rw [if_pos c7] at H
            have c7b0 : decide (0 ≤ x6_1) = true := decide_eq_true c7
            clear c7
            replace H := Option.bind_eq_some_iff.mp H
            obtain ⟨t163, A80, H⟩ := H
            replace H : (hawserref12_Disk_Left.l0 k1 a1 t163 (wrap64 (x6_1 + 1)) a0_0 l0_1 l0_2 a0_3 a0_4 a0_5) = some r := H
            have A8 := Aside0.mk A80
            clear A80
            have H' := Aside0.mk H
            clear H
            have hcz9_0 : wr.cell? ⟨gb161, 0, none⟩ = some (.int .i64 a0_0) := (blk_cell BK161.out 0).trans rfl
            have hcz9_1 : wr.cell? ⟨gb161, 1, none⟩ = some (.slice A0_1 l0_1.length c0_1) := (blk_cell BK161.out 1).trans rfl
            have hcz9_2 : wr.cell? ⟨gb161, 2, none⟩ = some (.slice A0_2 l0_2.length c0_2) := (blk_cell BK161.out 2).trans rfl
            have hcz9_3 : wr.cell? ⟨gb161, 3, none⟩ = some (.int .i64 a0_3) := (blk_cell BK161.out 3).trans rfl
            have hcz9_4 : wr.cell? ⟨gb161, 4, none⟩ = some (.int .i64 a0_4) := (blk_cell BK161.out 4).trans rfl
            have hcz9_5 : wr.cell? ⟨gb161, 5, none⟩ = some (.bool a0_5) := (blk_cell BK161.out 5).trans rfl
            have hfz9_0 := blk_frozen BK161.out 0
            have hfz9_1 := blk_frozen BK161.out 1
            have hfz9_2 := blk_frozen BK161.out 2
            have hfz9_3 := blk_frozen BK161.out 3
            have hfz9_4 := blk_frozen BK161.out 4
            have hfz9_5 := blk_frozen BK161.out 5
            have p162 : 0 ≤ (x6_1 : Int) := of_decide_eq_true (by first | (with_reducible assumption) | assumption)
            have q162 : x6_1 < (l0_2.length : Int) := of_decide_eq_true (by first | (with_reducible assumption) | assumption)
            obtain ⟨ad162, e162, hx162_0, hx162_1, hx162_2, hx162_3, hx162_4⟩ := at_T145 HR0_2.out x6_1 p162 q162
            cases e162
            replace hx162_0 := (HB.out.cell (World.block_lt_of_cell? w _ hx162_0)).trans hx162_0
            replace hx162_1 := (HB.out.cell (World.block_lt_of_cell? w _ hx162_1)).trans hx162_1
            replace hx162_2 := (HB.out.cell (World.block_lt_of_cell? w _ hx162_2)).trans hx162_2
            replace hx162_3 := (HB.out.cell (World.block_lt_of_cell? w _ hx162_3)).trans hx162_3
            replace hx162_4 := (HB.out.cell (World.block_lt_of_cell? w _ hx162_4)).trans hx162_4
            replace p162 := eq_true p162
            replace q162 := eq_true q162
            obtain ⟨Ao10, co10, eo10⟩ := Kd.V_slice HO_5.out
            subst eo10
            go_wp2_with (first | ((with_reducible refine gate_callee (f := 102) rfl ?_); refine goesL_ (some 27) rfl rfl Try.func102 (by kernel_rfl) rfl #[.slice Ao10 x5_1.length co10, .agg #[.int .i64 ((rd_T145 l0_2 x6_1).f0), .string ((rd_T145 l0_2 x6_1).f1), .string ((rd_T145 l0_2 x6_1).f2), .int .u8 ((rd_T145 l0_2 x6_1).f3), .int .i64 ((rd_T145 l0_2 x6_1).f4)]] rfl (by (try simp only [List.map_toArray, List.map_cons, List.map_nil]); first | done | rfl | (simp only [List.length_drop, List.length_take]; rfl)) ?_; (with_reducible refine (hawserref12_done.calls k1 (fun k_ => ((P0_1_ k_ ∨ w.heap.size ≤ k_) ∧ k_ ≠ gb161)) _ _ x5_1 ((rd_T145 l0_2 x6_1).f0) ((rd_T145 l0_2 x6_1).f1) ((rd_T145 l0_2 x6_1).f2) ((rd_T145 l0_2 x6_1).f3) ((rd_T145 l0_2 x6_1).f4) t163 _ ?side1 A8.out).mono ?_); (case side1 => exact HO_5.out); rintro e w11 ⟨v164, rfl, ho0, hb⟩; refine ⟨_, rfl, ?_⟩; have n0_ := Aside0.mk (Kd.V_below (by (with_reducible repeat (first | apply Kd.V_alloc | apply Kd.V_drewN | apply Kd.V_drew)); exact HO_5.out) hb); have n1_ := Aside0.mk (Kd.V_below (by (with_reducible repeat (first | apply Kd.V_alloc | apply Kd.V_drewN | apply Kd.V_drew)); exact HO_162001.out) hb); have n2_ := Aside0.mk (Kd.V_lower (Kd.V_mono (ok' := fun k_ => (P0_1_ k_ ∨ w.heap.size ≤ k_) ∧ k_ ≠ gb161) ho0 (fun k_ hk_ => ⟨Or.elim hk_ (fun hs_ => hs_.1) (fun hn_ => (.inr (Nat.le_trans (below_size (by repeat (first | (with_reducible first | exact HB.out | apply below_alloc | apply pw_below_drewN | apply below_drew1 | refine below_set ?_ GE161.out) | exact HB.out))) hn_))), Or.elim hk_ (fun hs_ => hs_.2) (fun hn_ => (Kd.freshB (g := gb161) (o := .cells #[.int .i64 a0_0, .slice A0_1 l0_1.length c0_1, .slice (some ad162) l0_2.length c0_2, .int .i64 a0_3, .int .i64 a0_4, .bool a0_5] 61 (0, 0)) (by (with_reducible repeat (first | refine blk_drewN ?_ _ | refine blk_drew ?_ | refine blk_alloc ?_ _)); exact BK161.out) k_ hn_))⟩)) (below_size (by repeat (first | (with_reducible first | exact HB.out | apply below_alloc | apply pw_below_drewN | apply below_drew1 | refine below_set ?_ GE161.out) | exact HB.out)))); have n3_ := Aside0.mk (blk_below (g := gb161) (o := .cells #[.int .i64 a0_0, .slice A0_1 l0_1.length c0_1, .slice (some ad162) l0_2.length c0_2, .int .i64 a0_3, .int .i64 a0_4, .bool a0_5] 61 (0, 0)) (by (with_reducible repeat (first | refine blk_drewN ?_ _ | refine blk_drew ?_ | refine blk_alloc ?_ _)); exact BK161.out) hb); have n4_ := Aside0.mk (below_step (by repeat (first | (with_reducible first | exact HB.out | apply below_alloc | apply pw_below_drewN | apply below_drew1 | refine below_set ?_ GE161.out) | exact HB.out)) hb); clear HO_5; clear HO_162001; clear BK161; clear HB; have HO_5 := n0_; have HO_162001 := n1_; have HO165 := n2_; have BK161 := n3_; have HB := n4_; clear n0_ n1_ n2_ n3_ n4_; (try clear hb); (try clear hb2); (try clear hk); (try clear hi); (try clear ho0)))
            go_roundg k1
            case measure => have := HK1.out; omega
            case rel => exact ⟨(t163), (wrap64 (x6_1 + 1)), (by first | rfl | (simp; done) | (simp [*]; done)), H', ⟨by have := HK1.out; omega⟩, ⟨by (with_reducible repeat (first | apply Kd.V_alloc | apply Kd.V_drewN | apply Kd.V_drew)); exact HO165.out⟩, ⟨by (with_reducible repeat (first | apply Kd.V_alloc | apply Kd.V_drewN | apply Kd.V_drew)); exact HO_162001.out⟩, ⟨by (with_reducible repeat (first | refine blk_drewN ?_ _ | refine blk_drew ?_ | refine blk_alloc ?_ _)); exact BK161.out⟩, ⟨by repeat (first | (with_reducible first | exact HB.out | apply below_alloc | apply pw_below_drewN | apply below_drew1 | refine below_set ?_ GE161.out) | exact HB.out)⟩⟩
          · rw [if_neg c7] at H
            exact absurd H (by simp)
        · rw [if_neg c6] at H
          have c6b0 : decide (x6_1 < a1) = false := decide_eq_false c6
          clear c6
          obtain rfl := Option.some.inj H
          have hcz12_0 : wr.cell? ⟨gb161, 0, none⟩ = some (.int .i64 a0_0) := (blk_cell BK161.out 0).trans rfl
          have hcz12_1 : wr.cell? ⟨gb161, 1, none⟩ = some (.slice A0_1 l0_1.length c0_1) := (blk_cell BK161.out 1).trans rfl
          have hcz12_2 : wr.cell? ⟨gb161, 2, none⟩ = some (.slice A0_2 l0_2.length c0_2) := (blk_cell BK161.out 2).trans rfl
          have hcz12_3 : wr.cell? ⟨gb161, 3, none⟩ = some (.int .i64 a0_3) := (blk_cell BK161.out 3).trans rfl
          have hcz12_4 : wr.cell? ⟨gb161, 4, none⟩ = some (.int .i64 a0_4) := (blk_cell BK161.out 4).trans rfl
          have hcz12_5 : wr.cell? ⟨gb161, 5, none⟩ = some (.bool a0_5) := (blk_cell BK161.out 5).trans rfl
          have hfz12_0 := blk_frozen BK161.out 0
          have hfz12_1 := blk_frozen BK161.out 1
          have hfz12_2 := blk_frozen BK161.out 2
          have hfz12_3 := blk_frozen BK161.out 3
          have hfz12_4 := blk_frozen BK161.out 4
          have hfz12_5 := blk_frozen BK161.out 5
          go_wp2
          go_ret
          exact ⟨_, by first | rfl | (simp [errW_none, errW_some] <;> rfl) | (simp [*, errW_none, errW_some] <;> rfl), by (with_reducible repeat (first | apply Kd.V_alloc | apply Kd.V_drewN | apply Kd.V_drew)); exact Kd.V_mono HO_5.out (fun _ hk => hk.1), by repeat (first | (with_reducible first | exact HB.out | apply below_alloc | apply pw_below_drewN | apply below_drew1 | refine below_set ?_ GE161.out) | exact HB.out)⟩
      · rw [if_neg c5] at H
        have c5b0 : decide (x6_1 < (l0_2.length : Int)) = false := decide_eq_false c5
        clear c5
        obtain rfl := Option.some.inj H
        have hcz13_0 : wr.cell? ⟨gb161, 0, none⟩ = some (.int .i64 a0_0) := (blk_cell BK161.out 0).trans rfl
        have hcz13_1 : wr.cell? ⟨gb161, 1, none⟩ = some (.slice A0_1 l0_1.length c0_1) := (blk_cell BK161.out 1).trans rfl
        have hcz13_2 : wr.cell? ⟨gb161, 2, none⟩ = some (.slice A0_2 l0_2.length c0_2) := (blk_cell BK161.out 2).trans rfl
        have hcz13_3 : wr.cell? ⟨gb161, 3, none⟩ = some (.int .i64 a0_3) := (blk_cell BK161.out 3).trans rfl
        have hcz13_4 : wr.cell? ⟨gb161, 4, none⟩ = some (.int .i64 a0_4) := (blk_cell BK161.out 4).trans rfl
        have hcz13_5 : wr.cell? ⟨gb161, 5, none⟩ = some (.bool a0_5) := (blk_cell BK161.out 5).trans rfl
        have hfz13_0 := blk_frozen BK161.out 0
        have hfz13_1 := blk_frozen BK161.out 1
        have hfz13_2 := blk_frozen BK161.out 2
        have hfz13_3 := blk_frozen BK161.out 3
        have hfz13_4 := blk_frozen BK161.out 4
        have hfz13_5 := blk_frozen BK161.out 5
        go_wp2
        go_ret
        exact ⟨_, by first | rfl | (simp [errW_none, errW_some] <;> rfl) | (simp [*, errW_none, errW_some] <;> rfl), by (with_reducible repeat (first | apply Kd.V_alloc | apply Kd.V_drewN | apply Kd.V_drew)); exact Kd.V_mono HO_5.out (fun _ hk => hk.1), by repeat (first | (with_reducible first | exact HB.out | apply below_alloc | apply pw_below_drewN | apply below_drew1 | refine below_set ?_ GE161.out) | exact HB.out)⟩

end Go.Proofs.Ytidijiijciokpaa.U
