-- Written for this claim by a program of this session (wip/xprint.py), by means of the kit's print. Not trusted: Lean checks it.
import Derived.Test.YtcpdnoaebbbgcaaGx0
namespace Go.Proofs.Ytcpdnoaebbbgcaa.G
open Go.RowKit Go.Proofs.YtcpdnoaebbbgcaaW.PrintWords Go.Proofs.YtcpdnoaebbbgcaaW.PrintLast Go.Proofs.YtcpdnoaebbbgcaaW.PrintMore
attribute [local go_sem] max2_int min2_int max_two min_two max_three min_three max_four min_four   -- for this text's walks alone
set_option linter.unusedVariables false
set_option linter.unusedSimpArgs false

/-! ### hawserref01_Lend: function 18 -/
open Go.Proofs.Ytcpdnoaebbbgcaa.Blocks
def lendMarks (n : Nat) : List Int := (List.range (n + 9)).map fun i : Nat => ((201 + (i : Int)) % 256)
def lendAt (n k : Nat) : List Int := (lendMarks n).take k ++ List.replicate (n + 9 - k) 0
theorem lendMarks_len (n : Nat) : (lendMarks n).length = n + 9 := by simp [lendMarks]
theorem lendAt_len (n k : Nat) (h : k ≤ n + 9) : (lendAt n k).length = n + 9 := by simp [lendAt, lendMarks]; omega
theorem lendAt_zero (n : Nat) : lendAt n 0 = List.replicate (n + 9) 0 := by simp [lendAt]
theorem lendAt_full (n : Nat) : lendAt n (n + 9) = lendMarks n := by
  have : (lendMarks n).take (n + 9) = lendMarks n := List.take_of_length_le (by rw [lendMarks_len]; omega)
  simp [lendAt, this]
theorem lendAt_set (n k : Nat) (h : k < n + 9) : (lendAt n k).set k ((201 + (k : Int)) % 256) = lendAt n (k + 1) := by
  have hm : (lendMarks n).take (k + 1) = (lendMarks n).take k ++ [(201 + (k : Int)) % 256] := by
    rw [List.take_succ_eq_append_getElem (by rw [lendMarks_len]; omega)]
    congr 1
    simp [lendMarks]
  have hl : ((lendMarks n).take k).length = k := by rw [List.length_take, lendMarks_len]; omega
  unfold lendAt
  rw [hm, List.set_append_right _ _ (by omega), hl, Nat.sub_self, show n + 9 - k = (n + 9 - (k + 1)) + 1 from by omega, List.replicate_succ, List.set_cons_zero]
  simp

def hawserref01_Lend.f (l0 : List Int) : Option (List Int × List Int) := if l0.length ≤ 1099511627776 then some (l0 ++ (lendMarks l0.length).drop l0.length, l0) else none

theorem infoB : (Try.prog.info? 5).map (fun i => (i.zero, i.size, i.bytes)) = some (some (.int .u8 0), 1, 1) := by kernel_rfl
set_option maxHeartbeats 800000 in
theorem lend_walk (A0 : Option Addr) (c0 : Nat) (l0 : List Int) (w : World) (hr0 : Kd.C (Kd.int .u8) w A0 l0.length l0) (hc0 : l0.length ≤ c0) (hn : l0.length ≤ 1099511627776) :
    Calls Try.prog 18 #[.slice A0 l0.length c0] w fun e w' => ∃ c g, e = .returned (.tuple #[.slice (some ⟨g, 0, none⟩) (l0.length + 9) (l0.length + 9), .slice (some ⟨g, 0, none⟩) l0.length c]) ∧ l0.length ≤ c ∧ w.heap.size ≤ g ∧
      Hid (w'.heap[g]? = some (.cells (nums .u8 (l0 ++ (lendMarks l0.length).drop l0.length)).toArray 5 (0, 0))) ∧ Below w.heap.size w w' := by
  have HR0 := Aside0.mk hr0
  have HC0 := Aside0.mk hc0
  clear hr0 hc0
  have hmk : ∀ W : World, (Instr.makeSlice 32 (.int .i64 ((l0.length : Int) + 9)) (.int .i64 ((l0.length : Int) + 9))).run Try.prog W = .ok (.slice (some ⟨W.heap.size, 0, none⟩) (l0.length + 9) (l0.length + 9)) (W.alloc (.cells (madeCells #[.int .u8 0] (l0.length + 9)) 5)) := by
    intro W
    exact print_make 32 5 .u8 1 Try.underlying32 infoB (by decide) (l0.length + 9) (by omega) W
  go_enter Try.func18, Try.ntmps18
  go_wp2
  go_loopw [12] (fun v wr => ∃ k : Nat, k ≤ l0.length + 9 ∧ v = .int .i64 k ∧ Hid (wr.heap[w.heap.size]? = some (.cells (nums .u8 (lendAt l0.length k)).toArray 5 (0, 0))) ∧ Below w.heap.size w wr) (fun v _ => l0.length + 9 - (intOf v).toNat)
  case atStart =>
    refine ⟨0, by omega, rfl, ?_, (Below.refl _ _).alloc (Nat.le_refl _) _⟩
    show (w.alloc _).heap[w.heap.size]? = _
    rw [heap_alloc_new, lendAt_zero, madeCells_nums]
  case round =>
    obtain ⟨k, hk, rfl, hh, hb⟩ := hrel
    clear hmk
    by_cases hlt : k < l0.length + 9
    · have hc : wr.cell? ⟨w.heap.size, k, none⟩ = some (.int .u8 ((lendAt l0.length k).getD k 0)) := by
        rw [blk_cell hh.out]
        have : k < (lendAt l0.length k).length := by rw [lendAt_len _ _ hk]; exact hlt
        simp [nums, List.getElem?_eq_getElem this, List.getD_eq_getElem?_getD]
      have hf := blk_frozen hh.out k
      have hb1 : (k : Int) < (l0.length : Int) + 9 := by omega
      go_wp2
      go_roundw
      case rel =>
        refine ⟨k + 1, by omega, by go_num, ?_, hb.setCell (Nat.le_refl _) _⟩
        have := blk_set hh.out k (.int .u8 ((201 + (k : Int)) % 256))
        rw [nums_set, lendAt_set _ _ hlt] at this
        exact this
      case measure => simp [intOf]; omega
    · have : k = l0.length + 9 := by omega
      subst this
      rw [lendAt_full] at hh
      have hszB : (Try.prog.info? 5).map (·.size) = some 1 := by kernel_rfl
      have HA : Hid (0 < (nums .u8 l0).length → (some ⟨w.heap.size, 0, none⟩ : Option Addr) = some ⟨w.heap.size, 0, none⟩ ∧ ∃ ad, A0 = some ad ∧ ∀ j v, (nums .u8 l0)[j]? = some v → wr.cell? (ad.add j) = some v) :=
        fun hp => ⟨rfl, cells_of_C (Kd.C_below HR0.out hb) (by rwa [nums_length] at hp)⟩
      go_wp2_with ((with_reducible refine wpList_copy_splice rfl (.tmp 22) (.tmp 23) 32 32 rfl 5 Try.underlying32 hszB (some ⟨w.heap.size, 0, none⟩) A0 (l0.length + 9) (l0.length + 9) l0.length c0 rfl rfl w.heap.size 0 (nums .u8 (lendMarks l0.length)) 5 hh.out (nums .u8 l0) ?c1 HA.out ?c2 ?c3 w.heap.size w hb (Nat.le_refl _) ?_); (case c1 => rw [nums_length]; exact min_self_add _ _); (case c2 => rw [nums_length, nums_length, lendMarks_len]; omega); (case c3 => exact nums_one _ _); intro w1 hg1 hb1)
      have hz : splice (nums .u8 (lendMarks l0.length)) 0 (nums .u8 l0) = nums .u8 (l0 ++ (lendMarks l0.length).drop l0.length) := by
        simp [splice, nums]
      rw [hz] at hg1
      go_quiet (fail)
      go_wp2
      go_ret2
      exact ⟨l0.length + 9, w.heap.size, rfl, by omega, Nat.le_refl _, hg1, pw_below_drewN hb1 _⟩
theorem hawserref01_Lend.calls (A0 : Option Addr) (c0 : Nat) (l0 : List Int) (r1 : List Int) (r2 : List Int) (w : World) (hr0 : Kd.C (Kd.int .u8) w A0 l0.length l0) (hc0 : l0.length ≤ c0) (h : hawserref01_Lend.f l0 = some (r1, r2)) :
    Calls Try.prog 18 #[.slice A0 l0.length c0] w fun e w' => ∃ v0_ v1_ : Value, e = .returned (.tuple #[v0_, v1_]) ∧ Kd.V (Kd.int .u8) 5 w' w.heap.size (fun k_ => (w.heap.size ≤ k_)) v0_ r1 ∧ Kd.V (Kd.int .u8) 5 w' w.heap.size (fun k_ => (w.heap.size ≤ k_)) v1_ r2 ∧ Below w.heap.size w w' := by
  unfold hawserref01_Lend.f at h
  split at h
  · rename_i hn
    obtain ⟨rfl, rfl⟩ : l0 ++ (lendMarks l0.length).drop l0.length = r1 ∧ l0 = r2 := by
      have := Option.some.inj h; exact ⟨congrArg Prod.fst this, congrArg Prod.snd this⟩
    refine (lend_walk A0 c0 l0 w hr0 hc0 hn).mono ?_
    rintro e w' ⟨c, g, rfl, hc, hg, hh, hb⟩
    have hL : (l0 ++ (lendMarks l0.length).drop l0.length).length = l0.length + 9 := by rw [List.length_append, List.length_drop, lendMarks_len]; omega
    refine ⟨_, _, rfl, ?_, ?_, hb⟩
    · have := V_of_blk (n := l0.length + 9) (c := l0.length + 9) (base := w.heap.size) (ok := fun k_ => w.heap.size ≤ k_) hh.out (o := 0) (by omega) (by omega) (Nat.le_refl _) hg
      rwa [List.drop_zero, List.take_of_length_le (by omega)] at this
    · have := V_of_blk (n := l0.length) (c := c) (base := w.heap.size) (ok := fun k_ => w.heap.size ≤ k_) hh.out (o := 0) (by omega) (by omega) hc hg
      rwa [List.drop_zero, List.take_append_of_le_length (Nat.le_refl _), List.take_length] at this
  · cases h

/-! ### leb_Decode: function 19 -/
mutual
def leb_Decode.l0 : Nat → List Int → Int → List Int → Int → Int → Option (Int × Int × Int)
  | 0, _, _, _, _, _ => none
  | k + 1, x0, x5, x8, x9, x10 => if x10 < x9 then (if 0 ≤ x10 then (if x10 < (x8.length : Int) then (if x10 = 10 then (if (x0.length : Int) < 10 then (some (0, 0, 10)) else (some (0, 0, 11))) else (if (rd x8 x10) ≥ 128 then (if 0 ≤ (wrap64 (7 * x10)) then (leb_Decode.l0 k x0 (Go.bits .or .u64 x5 (shl .u64 (IntKind.u64.wrap (Go.bits .and .u8 (rd x8 x10) 127)) (wrap64 (7 * x10)))) x8 x9 (wrap64 (x10 + 1))) else (none)) else (if x10 = 9 then (leb_Decode.j1 k x5 x10 (rd x8 x10) (decide ((rd x8 x10) > 1))) else (leb_Decode.j1 k x5 x10 (rd x8 x10) false)))) else (none)) else (none)) else (if (x0.length : Int) < 10 then (some (0, 0, 10)) else (some (0, 0, 11)))
def leb_Decode.j1 : Nat → Int → Int → Int → Bool → Option (Int × Int × Int)
  | 0, _, _, _, _ => none
  | k + 1, x5, x6, x7, x27 => if x27 = true then (some (0, 0, 11)) else (if x6 > 0 then (if x7 = 0 then (some (0, 0, 12)) else (if 0 ≤ (wrap64 (7 * x6)) then (some (Go.bits .or .u64 x5 (shl .u64 (IntKind.u64.wrap (x7)) (wrap64 (7 * x6))), wrap64 (x6 + 1), 0)) else (none))) else (if 0 ≤ (wrap64 (7 * x6)) then (some (Go.bits .or .u64 x5 (shl .u64 (IntKind.u64.wrap (x7)) (wrap64 (7 * x6))), wrap64 (x6 + 1), 0)) else (none)))
end
def leb_Decode.f (k : Nat) (l0 : List Int) : Option (Int × Int × Int) := leb_Decode.l0 k l0 0 l0 (l0.length : Int) 0
theorem leb_Decode.mono_l : ∀ k, (∀ y0 y1 y2 y3 y4, LeO (leb_Decode.l0 k y0 y1 y2 y3 y4) (leb_Decode.l0 (k + 1) y0 y1 y2 y3 y4)) ∧ (∀ y0 y1 y2 y3, LeO (leb_Decode.j1 k y0 y1 y2 y3) (leb_Decode.j1 (k + 1) y0 y1 y2 y3))
  | 0 => ⟨fun _ _ _ _ _ r h => by simp [leb_Decode.l0] at h, fun _ _ _ _ r h => by simp [leb_Decode.j1] at h⟩
  | k + 1 => by
    obtain ⟨ih0, ih1⟩ := leb_Decode.mono_l k
    refine ⟨?_, ?_⟩
    · intro y0 y1 y2 y3 y4
      unfold leb_Decode.l0
      repeat' first
      | (with_reducible exact ih0 _ _ _ _ _)
      | (with_reducible exact ih1 _ _ _ _)
      | (with_reducible exact LeO.refl _)
      | (with_reducible exact LeO.none _)
      | (with_reducible refine LeO.ite ?_ ?_)
      | (with_reducible refine LeO.bind ?_ (fun _ => ?_))
      | exact ih0 _ _ _ _ _
      | exact ih1 _ _ _ _
      | exact LeO.none _
      | refine LeO.ite ?_ ?_
      | refine LeO.bind ?_ (fun _ => ?_)
    · intro y0 y1 y2 y3
      unfold leb_Decode.j1
      repeat' first
      | (with_reducible exact ih0 _ _ _ _ _)
      | (with_reducible exact ih1 _ _ _ _)
      | (with_reducible exact LeO.refl _)
      | (with_reducible exact LeO.none _)
      | (with_reducible refine LeO.ite ?_ ?_)
      | (with_reducible refine LeO.bind ?_ (fun _ => ?_))
      | exact ih0 _ _ _ _ _
      | exact ih1 _ _ _ _
      | exact LeO.none _
      | refine LeO.ite ?_ ?_
      | refine LeO.bind ?_ (fun _ => ?_)
theorem leb_Decode.mono : ∀ a0 k, LeO (leb_Decode.f k a0) (leb_Decode.f (k + 1) a0) := by
  intro a0 k
  obtain ⟨ih0, ih1⟩ := leb_Decode.mono_l k
  unfold leb_Decode.f
  repeat' first
      | (with_reducible exact ih0 _ _ _ _ _)
      | (with_reducible exact ih1 _ _ _ _)
      | (with_reducible exact LeO.refl _)
      | (with_reducible exact LeO.none _)
      | (with_reducible refine LeO.ite ?_ ?_)
      | (with_reducible refine LeO.bind ?_ (fun _ => ?_))
      | exact ih0 _ _ _ _ _
      | exact ih1 _ _ _ _
      | exact LeO.none _
      | refine LeO.ite ?_ ?_
      | refine LeO.bind ?_ (fun _ => ?_)
set_option maxHeartbeats 8000000 in
set_option maxRecDepth 100000 in
theorem leb_Decode.calls (k : Nat) (A0 : Option Addr) (c0 : Nat) (l0 : List Int) (r1 : Int) (r2 : Int) (r3 : Int) (w : World) (hr0 : Kd.C (Kd.int .u8) w A0 l0.length l0) (hc0 : l0.length ≤ c0) (h : leb_Decode.f k l0 = some (r1, r2, r3)) :
    Calls Try.prog 19 #[.slice A0 l0.length c0] w fun e w' => e = .returned (.tuple #[.int .u64 r1, .int .i64 r2, .int .i64 r3]) ∧ Drawn0 w w' := by
  have HR0 := Aside0.mk hr0
  have HC0 := Aside0.mk hc0
  clear hr0 hc0
  have H : (leb_Decode.l0 k l0 0 l0 (l0.length : Int) 0) = some (r1, r2, r3) := h
  clear h
  have H' := Aside0.mk H
  clear H
  go_enter Try.func19, Try.ntmps19
  go_wp2
  go_loopg [5, 10] k (fun kq v5 v10 w' => ∃ (x5_1 : Int) (x10_1 : Int), v5 = .int .u64 x5_1 ∧ v10 = .int .i64 x10_1 ∧ Aside0 (leb_Decode.l0 kq l0 x5_1 l0 (l0.length : Int) x10_1 = some (r1, r2, r3)) ∧ Aside0 (kq ≤ k) ∧ Drawn0 w w')
  case atStart => exact ⟨(0), (0), (by first | rfl | (simp; done) | (simp [*]; done)), (by first | rfl | (simp; done) | (simp [*]; done)), H', ⟨Nat.le_refl _⟩, by repeat (first | exact Drawn0.refl _ | apply Drawn0.step)⟩
  case round =>
    clear H'
    try clear c1
    obtain ⟨x5_1, x10_1, rfl, rfl, HA, HK1, ⟨m1, rfl⟩⟩ := hrel
    cases gk with
    | zero => exact absurd HA.out (by simp [leb_Decode.l0])
    | succ k1 =>
      have H := HA.out
      clear HA
      simp only [leb_Decode.l0] at H
      by_cases c2 : x10_1 < (l0.length : Int)
      · rw [if_pos c2] at H
        have c2b0 : decide (x10_1 < (l0.length : Int)) = true := decide_eq_true c2
        clear c2
        by_cases c3 : 0 ≤ x10_1
        · rw [if_pos c3] at H
          have c3b0 : decide (0 ≤ x10_1) = true := decide_eq_true c3
          clear c3
          by_cases c4 : x10_1 < (l0.length : Int)
          · rw [if_pos c4] at H
            have c4b0 : decide (x10_1 < (l0.length : Int)) = true := decide_eq_true c4
            clear c4
            by_cases c5 : x10_1 = 10
            · rw [if_pos c5] at H
              have c5b0 : (x10_1 == 10) = true := beq_iff_eq.mpr c5
              have c5b1 : (x10_1 != 10) = false := bne_eq_false_iff_eq.mpr c5
              clear c5
              by_cases c6 : (l0.length : Int) < 10
              · rw [if_pos c6] at H
                have c6b0 : decide ((l0.length : Int) < 10) = true := decide_eq_true c6
                have c6b1 : decide (l0.length < 10) = true := decide_eq_true (by omega)
                clear c6
                simp only [Option.some.injEq, Prod.mk.injEq] at H
                obtain ⟨rfl, rfl, rfl⟩ := H
                have p171 : 0 ≤ (x10_1 : Int) := of_decide_eq_true (by first | (with_reducible assumption) | assumption)
                have q171 : x10_1 < (l0.length : Int) := of_decide_eq_true (by first | (with_reducible assumption) | assumption)
                obtain ⟨ad171, e171, hx171_0⟩ := Kd.at_int HR0.out x10_1 p171 q171
                cases e171
                replace p171 := eq_true p171
                replace q171 := eq_true q171
                go_wp2
                go_ret3
                exact ⟨by first | rfl | (simp; done) | (simp [*]; done), by repeat (first | exact Drawn0.refl _ | apply Drawn0.step)⟩
              · rw [if_neg c6] at H
                have c6b0 : decide ((l0.length : Int) < 10) = false := decide_eq_false c6
                have c6b1 : decide (l0.length < 10) = false := decide_eq_false (by omega)
                clear c6
                simp only [Option.some.injEq, Prod.mk.injEq] at H
                obtain ⟨rfl, rfl, rfl⟩ := H
                have p171 : 0 ≤ (x10_1 : Int) := of_decide_eq_true (by first | (with_reducible assumption) | assumption)
                have q171 : x10_1 < (l0.length : Int) := of_decide_eq_true (by first | (with_reducible assumption) | assumption)
                obtain ⟨ad171, e171, hx171_0⟩ := Kd.at_int HR0.out x10_1 p171 q171
                cases e171
                replace p171 := eq_true p171
                replace q171 := eq_true q171
                go_wp2
                go_ret3
                exact ⟨by first | rfl | (simp; done) | (simp [*]; done), by repeat (first | exact Drawn0.refl _ | apply Drawn0.step)⟩
            · rw [if_neg c5] at H
              have c5b0 : (x10_1 == 10) = false := beq_eq_false_iff_ne.mpr c5
              have c5b1 : (x10_1 != 10) = true := bne_iff_ne.mpr c5
              by_cases c7 : (rd l0 x10_1) ≥ 128
              · rw [if_pos c7] at H
                have c7b0 : decide (128 ≤ (rd l0 x10_1)) = true := decide_eq_true c7
                clear c7
                obtain ⟨ji8, hji8⟩ : ∃ j_ : Int, (wrap64 (7 * x10_1)) = j_ := ⟨_, rfl⟩
                replace H : (if 0 ≤ (ji8) then (leb_Decode.l0 k1 l0 (Go.bits .or .u64 x5_1 (shl .u64 (IntKind.u64.wrap (Go.bits .and .u8 (rd l0 x10_1) 127)) (ji8))) l0 (l0.length : Int) (wrap64 (x10_1 + 1))) else (none)) = some (r1, r2, r3) := by first | (rw [hji8] at H; exact H) | (simp only [hji8] at H ⊢; exact H)
                have hji8w : (IntKind.i64.wrap (7 * x10_1)) = ji8 := (i64_w _).trans hji8
                by_cases c9 : 0 ≤ (ji8)
                · rw [if_pos c9] at H
                  have c9b0 := eq_true c9
                  have c9b1 : decide (0 ≤ (ji8)) = true := decide_eq_true c9
                  clear c9
                  obtain ⟨ji10, hji10⟩ : ∃ j_ : Int, (shl .u64 (IntKind.u64.wrap (Go.bits .and .u8 (rd l0 x10_1) 127)) (ji8)) = j_ := ⟨_, rfl⟩
                  replace H : (leb_Decode.l0 k1 l0 (Go.bits .or .u64 x5_1 (ji10)) l0 (l0.length : Int) (wrap64 (x10_1 + 1))) = some (r1, r2, r3) := by first | (rw [hji10] at H; exact H) | (simp only [hji10] at H ⊢; exact H)
                  have hji10_ : (IntKind.u64.wrap ((IntKind.u64.wrap (Go.bits .and .u8 (rd l0 x10_1) 127)) * 2 ^ min (ji8).toNat 64)) = ji10 := hji10
                  have hji10z : (ji8) ≤ 64 → (IntKind.u64.wrap ((IntKind.u64.wrap (Go.bits .and .u8 (rd l0 x10_1) 127)) * 2 ^ (ji8).toNat)) = ji10 := shl_small hji10
                  have H' := Aside0.mk H
                  clear H
                  have p171 : 0 ≤ (x10_1 : Int) := of_decide_eq_true (by first | (with_reducible assumption) | assumption)
                  have q171 : x10_1 < (l0.length : Int) := of_decide_eq_true (by first | (with_reducible assumption) | assumption)
                  obtain ⟨ad171, e171, hx171_0⟩ := Kd.at_int HR0.out x10_1 p171 q171
                  cases e171
                  replace p171 := eq_true p171
                  replace q171 := eq_true q171
                  go_wp2
                  go_roundg k1
                  case measure => have := HK1.out; omega
                  case rel => exact ⟨(Go.bits .or .u64 x5_1 (ji10)), (wrap64 (x10_1 + 1)), (by first | rfl | (simp; done) | (simp only [← hji10] <;> (first | rfl | simp)) | (simp [*]; done)), (by first | rfl | (simp; done) | (simp [*]; done)), H', ⟨by have := HK1.out; omega⟩, by repeat (first | exact Drawn0.refl _ | apply Drawn0.step)⟩
                · rw [if_neg c9] at H
                  exact absurd H (by simp)
              · rw [if_neg c7] at H
                have c7b0 : decide (128 ≤ (rd l0 x10_1)) = false := decide_eq_false c7
                clear c7
                have HC11 := Aside0.mk H
                clear H
                have p171 : 0 ≤ (x10_1 : Int) := of_decide_eq_true (by first | (with_reducible assumption) | assumption)
                have q171 : x10_1 < (l0.length : Int) := of_decide_eq_true (by first | (with_reducible assumption) | assumption)
                obtain ⟨ad171, e171, hx171_0⟩ := Kd.at_int HR0.out x10_1 p171 q171
                cases e171
                replace p171 := eq_true p171
                replace q171 := eq_true q171
                go_upto_region 8 with (fail)
                go_cut [27] (fun v27 wc => ∃ (kq : Nat) (x27_10 : Bool), v27 = .bool x27_10 ∧ Aside0 (leb_Decode.j1 kq x5_1 x10_1 (rd l0 x10_1) x27_10 = some (r1, r2, r3)) ∧ Aside0 (kq ≤ k1) ∧ Drawn0 w wc)
                case first =>
                  have H := HC11.out
                  clear HC11
                  by_cases c12 : x10_1 = 9
                  · rw [if_pos c12] at H
                    have c12b0 : (x10_1 == 9) = true := beq_iff_eq.mpr c12
                    have c12b1 : (x10_1 != 9) = false := bne_eq_false_iff_eq.mpr c12
                    clear c12
                    (first | rw [c12b0] | (simp only [i64_w, i32_w]; rw [c12b0]) | skip)
                    have H' := Aside0.mk H
                    clear H
                    go_wp2
                    go_meet
                    case rel => exact ⟨_, (decide ((rd l0 x10_1) > 1)), (by first | rfl | (simp; done) | (simp [*]; done)), H', ⟨by have := HK1.out; first | omega | exact Nat.le_refl _⟩, by repeat (first | exact Drawn0.refl _ | apply Drawn0.step)⟩
                  · rw [if_neg c12] at H
                    have c12b0 : (x10_1 == 9) = false := beq_eq_false_iff_ne.mpr c12
                    have c12b1 : (x10_1 != 9) = true := bne_iff_ne.mpr c12
                    (first | rw [c12b0] | (simp only [i64_w, i32_w]; rw [c12b0]) | skip)
                    have H' := Aside0.mk H
                    clear H
                    go_wp2
                    go_meet
                    case rel => exact ⟨_, (false), (by first | rfl | (simp; done) | (simp [*]; done)), H', ⟨by have := HK1.out; first | omega | exact Nat.le_refl _⟩, by repeat (first | exact Drawn0.refl _ | apply Drawn0.step)⟩
                case rest =>
                  clear HC11
                  try clear c1
                  try clear p1
                  try clear q1
                  try clear hx1
                  try clear c2
                  try clear c2b0
                  try clear p2
                  try clear c3
                  try clear c3b0
                  try clear c4
                  try clear c4b0
                  try clear c5
                  try clear c5b0
                  try clear c5b1
                  try clear c6
                  try clear c6b0
                  try clear c6b1
                  try clear p6
                  try clear c7
                  try clear c7b0
                  try clear c9
                  try clear c9b0
                  try clear c9b1
                  try clear c12
                  try clear c12b0
                  try clear c12b1
                  try clear hx171_0
                  try clear p171
                  try clear q171
                  obtain ⟨kq, x27_10, rfl, HA, HJ10, ⟨mc10, rfl⟩⟩ := hcut
                  cases kq with
                  | zero => exact absurd HA.out (by simp [leb_Decode.j1])
                  | succ kj10 =>
                    have H := HA.out
                    clear HA
                    simp only [leb_Decode.j1] at H
                    by_cases c13 : x27_10 = true
                    · subst c13
                      have H1 : (some (0, 0, 11)) = some (r1, r2, r3) := by rw [if_pos rfl] at H; exact H
                      clear H
                      have H := H1
                      clear H1
                      simp only [Option.some.injEq, Prod.mk.injEq] at H
                      obtain ⟨rfl, rfl, rfl⟩ := H
                      go_wp2
                      go_ret3
                      exact ⟨by first | rfl | (simp; done) | (simp [*]; done), by repeat (first | exact Drawn0.refl _ | apply Drawn0.step)⟩
                    · replace c13 := Bool.eq_false_iff.mpr c13
                      subst c13
                      have H1 : (if x10_1 > 0 then (if (rd l0 x10_1) = 0 then (some (0, 0, 12)) else (if 0 ≤ (wrap64 (7 * x10_1)) then (some (Go.bits .or .u64 x5_1 (shl .u64 (IntKind.u64.wrap ((rd l0 x10_1))) (wrap64 (7 * x10_1))), wrap64 (x10_1 + 1), 0)) else (none))) else (if 0 ≤ (wrap64 (7 * x10_1)) then (some (Go.bits .or .u64 x5_1 (shl .u64 (IntKind.u64.wrap ((rd l0 x10_1))) (wrap64 (7 * x10_1))), wrap64 (x10_1 + 1), 0)) else (none))) = some (r1, r2, r3) := by rw [if_neg (show ¬ (false = true) by decide)] at H; exact H
                      clear H
                      have H := H1
                      clear H1
                      by_cases c14 : x10_1 > 0
                      · rw [if_pos c14] at H
                        have c14b0 : decide (0 < x10_1) = true := decide_eq_true c14
                        clear c14
                        by_cases c15 : (rd l0 x10_1) = 0
                        · rw [if_pos c15] at H
                          have c15b0 : ((rd l0 x10_1) == 0) = true := beq_iff_eq.mpr c15
                          have c15b1 : ((rd l0 x10_1) != 0) = false := bne_eq_false_iff_eq.mpr c15
                          clear c15
                          simp only [Option.some.injEq, Prod.mk.injEq] at H
                          obtain ⟨rfl, rfl, rfl⟩ := H
                          go_wp2
                          go_ret3
                          exact ⟨by first | rfl | (simp; done) | (simp [*]; done), by repeat (first | exact Drawn0.refl _ | apply Drawn0.step)⟩
                        · rw [if_neg c15] at H
                          have c15b0 : ((rd l0 x10_1) == 0) = false := beq_eq_false_iff_ne.mpr c15
                          have c15b1 : ((rd l0 x10_1) != 0) = true := bne_iff_ne.mpr c15
                          obtain ⟨ji16, hji16⟩ : ∃ j_ : Int, (wrap64 (7 * x10_1)) = j_ := ⟨_, rfl⟩
                          replace H : (if 0 ≤ (ji16) then (some (Go.bits .or .u64 x5_1 (shl .u64 (IntKind.u64.wrap ((rd l0 x10_1))) (ji16)), wrap64 (x10_1 + 1), 0)) else (none)) = some (r1, r2, r3) := by first | (rw [hji16] at H; exact H) | (simp only [hji16] at H ⊢; exact H)
                          have hji16w : (IntKind.i64.wrap (7 * x10_1)) = ji16 := (i64_w _).trans hji16
                          by_cases c17 : 0 ≤ (ji16)
                          · rw [if_pos c17] at H
                            have c17b0 := eq_true c17
                            have c17b1 : decide (0 ≤ (ji16)) = true := decide_eq_true c17
                            clear c17
                            obtain ⟨ji18, hji18⟩ : ∃ j_ : Int, (shl .u64 (IntKind.u64.wrap ((rd l0 x10_1))) (ji16)) = j_ := ⟨_, rfl⟩
                            replace H : (some (Go.bits .or .u64 x5_1 (ji18), wrap64 (x10_1 + 1), 0)) = some (r1, r2, r3) := by first | (rw [hji18] at H; exact H) | (simp only [hji18] at H ⊢; exact H)
                            have hji18_ : (IntKind.u64.wrap ((IntKind.u64.wrap ((rd l0 x10_1))) * 2 ^ min (ji16).toNat 64)) = ji18 := hji18
                            have hji18z : (ji16) ≤ 64 → (IntKind.u64.wrap ((IntKind.u64.wrap ((rd l0 x10_1))) * 2 ^ (ji16).toNat)) = ji18 := shl_small hji18
                            simp only [Option.some.injEq, Prod.mk.injEq] at H
                            obtain ⟨rfl, rfl, rfl⟩ := H
                            go_wp2
                            go_ret3
                            exact ⟨by first | rfl | (simp; done) | (simp only [← hji16, ← hji18] <;> (first | rfl | simp)) | (simp [*]; done), by repeat (first | exact Drawn0.refl _ | apply Drawn0.step)⟩
                          · rw [if_neg c17] at H
                            exact absurd H (by simp)
                      · rw [if_neg c14] at H
                        have c14b0 : decide (0 < x10_1) = false := decide_eq_false c14
                        clear c14
                        obtain ⟨ji19, hji19⟩ : ∃ j_ : Int, (wrap64 (7 * x10_1)) = j_ := ⟨_, rfl⟩
                        replace H : (if 0 ≤ (ji19) then (some (Go.bits .or .u64 x5_1 (shl .u64 (IntKind.u64.wrap ((rd l0 x10_1))) (ji19)), wrap64 (x10_1 + 1), 0)) else (none)) = some (r1, r2, r3) := by first | (rw [hji19] at H; exact H) | (simp only [hji19] at H ⊢; exact H)
                        have hji19w : (IntKind.i64.wrap (7 * x10_1)) = ji19 := (i64_w _).trans hji19
                        by_cases c20 : 0 ≤ (ji19)
                        · rw [if_pos c20] at H
                          have c20b0 := eq_true c20
                          have c20b1 : decide (0 ≤ (ji19)) = true := decide_eq_true c20
                          clear c20
                          obtain ⟨ji21, hji21⟩ : ∃ j_ : Int, (shl .u64 (IntKind.u64.wrap ((rd l0 x10_1))) (ji19)) = j_ := ⟨_, rfl⟩
                          replace H : (some (Go.bits .or .u64 x5_1 (ji21), wrap64 (x10_1 + 1), 0)) = some (r1, r2, r3) := by first | (rw [hji21] at H; exact H) | (simp only [hji21] at H ⊢; exact H)
                          have hji21_ : (IntKind.u64.wrap ((IntKind.u64.wrap ((rd l0 x10_1))) * 2 ^ min (ji19).toNat 64)) = ji21 := hji21
                          have hji21z : (ji19) ≤ 64 → (IntKind.u64.wrap ((IntKind.u64.wrap ((rd l0 x10_1))) * 2 ^ (ji19).toNat)) = ji21 := shl_small hji21
                          simp only [Option.some.injEq, Prod.mk.injEq] at H
                          obtain ⟨rfl, rfl, rfl⟩ := H
                          go_wp2
                          go_ret3
                          exact ⟨by first | rfl | (simp; done) | (simp only [← hji19, ← hji21] <;> (first | rfl | simp)) | (simp [*]; done), by repeat (first | exact Drawn0.refl _ | apply Drawn0.step)⟩
                        · rw [if_neg c20] at H
                          exact absurd H (by simp)
          · rw [if_neg c4] at H
            exact absurd H (by simp)
        · rw [if_neg c3] at H
          exact absurd H (by simp)
      · rw [if_neg c2] at H
        have c2b0 : decide (x10_1 < (l0.length : Int)) = false := decide_eq_false c2
        clear c2
        by_cases c22 : (l0.length : Int) < 10
        · rw [if_pos c22] at H
          have c22b0 : decide ((l0.length : Int) < 10) = true := decide_eq_true c22
          have c22b1 : decide (l0.length < 10) = true := decide_eq_true (by omega)
          clear c22
          simp only [Option.some.injEq, Prod.mk.injEq] at H
          obtain ⟨rfl, rfl, rfl⟩ := H
          go_wp2
          go_ret3
          exact ⟨by first | rfl | (simp; done) | (simp [*]; done), by repeat (first | exact Drawn0.refl _ | apply Drawn0.step)⟩
        · rw [if_neg c22] at H
          have c22b0 : decide ((l0.length : Int) < 10) = false := decide_eq_false c22
          have c22b1 : decide (l0.length < 10) = false := decide_eq_false (by omega)
          clear c22
          simp only [Option.some.injEq, Prod.mk.injEq] at H
          obtain ⟨rfl, rfl, rfl⟩ := H
          go_wp2
          go_ret3
          exact ⟨by first | rfl | (simp; done) | (simp [*]; done), by repeat (first | exact Drawn0.refl _ | apply Drawn0.step)⟩

end Go.Proofs.Ytcpdnoaebbbgcaa.G
