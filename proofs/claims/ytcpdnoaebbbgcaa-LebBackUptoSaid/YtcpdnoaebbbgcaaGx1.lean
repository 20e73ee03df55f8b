-- Written for this claim by a program of this session (wip/xprint.py), by means of the kit's print. Not trusted: Lean checks it.
import Derived.Test.YtcpdnoaebbbgcaaGx0
namespace Go.Proofs.Ytcpdnoaebbbgcaa.G
open Go.RowKit Go.Proofs.YtcpdnoaebbbgcaaW.PrintWords Go.Proofs.YtcpdnoaebbbgcaaW.PrintLast Go.Proofs.YtcpdnoaebbbgcaaW.PrintMore
attribute [local go_sem] max2_int min2_int max_two min_two max_three min_three max_four min_four   -- for this text's walks alone
set_option linter.unusedVariables false
set_option linter.unusedSimpArgs false

/-! ### hawserref01_Lend: function 18 -/
open Go.Proofs.Ytcpdnoaebbbgcaa.Blocks
def lendMarks (n : Nat) : List Int := (List.range (n + 9)).map fun i : Nat => ((201 + (i : Int)) % 256)
def lendAt (n k : Nat) : List Int := (lendMarks n).take k ++ List.replicate (n + 9 - k) 0
theorem lendMarks_len (n : Nat) : (lendMarks n).length = n + 9 := by simp [lendMarks]
theorem lendAt_len (n k : Nat) (h : k ≤ n + 9) : (lendAt n k).length = n + 9 := by simp [lendAt, lendMarks]; omega
theorem lendAt_zero (n : Nat) : lendAt n 0 = List.replicate (n + 9) 0 := by simp [lendAt]
theorem lendAt_full (n : Nat) : lendAt n (n + 9) = lendMarks n := by
  have : (lendMarks n).take (n + 9) = lendMarks n := List.take_of_length_le (by rw [lendMarks_len]; omega)
  simp [lendAt, this]
theorem lendAt_set (n k : Nat) (h : k < n + 9) : (lendAt n k).set k ((201 + (k : Int)) % 256) = lendAt n (k + 1) := by
  have hm : (lendMarks n).take (k + 1) = (lendMarks n).take k ++ [(201 + (k : Int)) % 256] := by
    rw [List.take_succ_eq_append_getElem (by rw [lendMarks_len]; omega)]
    congr 1
    simp [lendMarks]
  have hl : ((lendMarks n).take k).length = k := by rw [List.length_take, lendMarks_len]; omega
  unfold lendAt
  rw [hm, List.set_append_right _ _ (by omega), hl, Nat.sub_self, show n + 9 - k = (n + 9 - (k + 1)) + 1 from by omega, List.replicate_succ, List.set_cons_zero]
  simp

def hawserref01_Lend.f (l0 : List Int) : Option (List Int × List Int) := if l0.length ≤ 1099511627776 then some (l0 ++ (lendMarks l0.length).drop l0.length, l0) else none

theorem infoB : (Try.prog.info? 5).map (fun i => (i.zero, i.size, i.bytes)) = some (some (.int .u8 0), 1, 1) := by kernel_rfl
set_option maxHeartbeats 800000 in
theorem lend_walk (A0 : Option Addr) (c0 : Nat) (l0 : List Int) (w : World) (hr0 : Kd.C (Kd.int .u8) w A0 l0.length l0) (hc0 : l0.length ≤ c0) (hn : l0.length ≤ 1099511627776) :
    Calls Try.prog 18 #[.slice A0 l0.length c0] w fun e w' => ∃ c g, e = .returned (.tuple #[.slice (some ⟨g, 0, none⟩) (l0.length + 9) (l0.length + 9), .slice (some ⟨g, 0, none⟩) l0.length c]) ∧ l0.length ≤ c ∧ w.heap.size ≤ g ∧
      Hid (w'.heap[g]? = some (.cells (nums .u8 (l0 ++ (lendMarks l0.length).drop l0.length)).toArray 5 (0, 0))) ∧ Below w.heap.size w w' := by
  have HR0 := Aside0.mk hr0
  have HC0 := Aside0.mk hc0
  clear hr0 hc0
  have hmk : ∀ W : World, (Instr.makeSlice 32 (.int .i64 ((l0.length : Int) + 9)) (.int .i64 ((l0.length : Int) + 9))).run Try.prog W = .ok (.slice (some ⟨W.heap.size, 0, none⟩) (l0.length + 9) (l0.length + 9)) (W.alloc (.cells (madeCells #[.int .u8 0] (l0.length + 9)) 5)) := by
    intro W
    exact print_make 32 5 .u8 1 Try.underlying32 infoB (by decide) (l0.length + 9) (by omega) W
  go_enter Try.func18, Try.ntmps18
  go_wp2
  go_loopw [12] (fun v wr => ∃ k : Nat, k ≤ l0.length + 9 ∧ v = .int .i64 k ∧ Hid (wr.heap[w.heap.size]? = some (.cells (nums .u8 (lendAt l0.length k)).toArray 5 (0, 0))) ∧ Below w.heap.size w wr) (fun v _ => l0.length + 9 - (intOf v).toNat)
  case atStart =>
    refine ⟨0, by omega, rfl, ?_, (Below.refl _ _).alloc (Nat.le_refl _) _⟩
    show (w.alloc _).heap[w.heap.size]? = _
    rw [heap_alloc_new, lendAt_zero, madeCells_nums]
  case round =>
    obtain ⟨k, hk, rfl, hh, hb⟩ := hrel
    clear hmk
    by_cases hlt : k < l0.length + 9
    · have hc : wr.cell? ⟨w.heap.size, k, none⟩ = some (.int .u8 ((lendAt l0.length k).getD k 0)) := by
        rw [blk_cell hh.out]
        have : k < (lendAt l0.length k).length := by rw [lendAt_len _ _ hk]; exact hlt
        simp [nums, List.getElem?_eq_getElem this, List.getD_eq_getElem?_getD]
      have hf := blk_frozen hh.out k
      have hb1 : (k : Int) < (l0.length : Int) + 9 := by omega
      go_wp2
      go_roundw
      case rel =>
        refine ⟨k + 1, by omega, by go_num, ?_, hb.setCell (Nat.le_refl _) _⟩
        have := blk_set hh.out k (.int .u8 ((201 + (k : Int)) % 256))
        rw [nums_set, lendAt_set _ _ hlt] at this
        exact this
      case measure => simp [intOf]; omega
    · have : k = l0.length + 9 := by omega
      subst this
      rw [lendAt_full] at hh
      have hszB : (Try.prog.info? 5).map (·.size) = some 1 := by kernel_rfl
      have HA : Hid (0 < (nums .u8 l0).length → (some ⟨w.heap.size, 0, none⟩ : Option Addr) = some ⟨w.heap.size, 0, none⟩ ∧ ∃ ad, A0 = some ad ∧ ∀ j v, (nums .u8 l0)[j]? = some v → wr.cell? (ad.add j) = some v) :=
        fun hp => ⟨rfl, cells_of_C (Kd.C_below HR0.out hb) (by rwa [nums_length] at hp)⟩
      go_wp2_with ((with_reducible refine wpList_copy_splice rfl (.tmp 22) (.tmp 23) 32 32 rfl 5 Try.underlying32 hszB (some ⟨w.heap.size, 0, none⟩) A0 (l0.length + 9) (l0.length + 9) l0.length c0 rfl rfl w.heap.size 0 (nums .u8 (lendMarks l0.length)) 5 hh.out (nums .u8 l0) ?c1 HA.out ?c2 ?c3 w.heap.size w hb (Nat.le_refl _) ?_); (case c1 => rw [nums_length]; exact min_self_add _ _); (case c2 => rw [nums_length, nums_length, lendMarks_len]; omega); (case c3 => exact nums_one _ _); intro w1 hg1 hb1)
      have hz : splice (nums .u8 (lendMarks l0.length)) 0 (nums .u8 l0) = nums .u8 (l0 ++ (lendMarks l0.length).drop l0.length) := by
        simp [splice, nums]
      rw [hz] at hg1
      go_quiet (fail)
      go_wp2
      go_ret2
      exact ⟨l0.length + 9, w.heap.size, rfl, by omega, Nat.le_refl _, hg1, pw_below_drewN hb1 _⟩
theorem hawserref01_Lend.calls (A0 : Option Addr) (c0 : Nat) (l0 : List Int) (r1 : List Int) (r2 : List Int) (w : World) (hr0 : Kd.C (Kd.int .u8) w A0 l0.length l0) (hc0 : l0.length ≤ c0) (h : hawserref01_Lend.f l0 = some (r1, r2)) :
    Calls Try.prog 18 #[.slice A0 l0.length c0] w fun e w' => ∃ v0_ v1_ : Value, e = .returned (.tuple #[v0_, v1_]) ∧ Kd.V (Kd.int .u8) 5 w' w.heap.size (fun k_ => (w.heap.size ≤ k_)) v0_ r1 ∧ Kd.V (Kd.int .u8) 5 w' w.heap.size (fun k_ => (w.heap.size ≤ k_)) v1_ r2 ∧ Below w.heap.size w w' := by
  unfold hawserref01_Lend.f at h
  split at h
  · rename_i hn
    obtain ⟨rfl, rfl⟩ : l0 ++ (lendMarks l0.length).drop l0.length = r1 ∧ l0 = r2 := by
      have := Option.some.inj h; exact ⟨congrArg Prod.fst this, congrArg Prod.snd this⟩
    refine (lend_walk A0 c0 l0 w hr0 hc0 hn).mono ?_
    rintro e w' ⟨c, g, rfl, hc, hg, hh, hb⟩
    have hL : (l0 ++ (lendMarks l0.length).drop l0.length).length = l0.length + 9 := by rw [List.length_append, List.length_drop, lendMarks_len]; omega
    refine ⟨_, _, rfl, ?_, ?_, hb⟩
    · have := V_of_blk (n := l0.length + 9) (c := l0.length + 9) (base := w.heap.size) (ok := fun k_ => w.heap.size ≤ k_) hh.out (o := 0) (by omega) (by omega) (Nat.le_refl _) hg
      rwa [List.drop_zero, List.take_of_length_le (by omega)] at this
    · have := V_of_blk (n := l0.length) (c := c) (base := w.heap.size) (ok := fun k_ => w.heap.size ≤ k_) hh.out (o := 0) (by omega) (by omega) hc hg
      rwa [List.drop_zero, List.take_append_of_le_length (Nat.le_refl _), List.take_length] at this
  · cases h

/-! ### hawserref01_Kept: function 21 -/
def hawserref01_Kept.l0 : Nat → List Int → List Int → Int → Int → Option (Bool)
  | 0, _, _, _, _ => none
  | k + 1, x0, x1, x13, x14 => if x14 < x13 then (if x14 < (x1.length : Int) then (if 0 ≤ x14 then (if x14 < (x0.length : Int) then (if (rd x0 x14) = (rd x1 x14) then (hawserref01_Kept.l0 k x0 x1 x13 (wrap64 (x14 + 1))) else (some false)) else (none)) else (none)) else (if 0 ≤ x14 then (if x14 < (x0.length : Int) then (if (rd x0 x14) = ((wrap64 (201 + x14)) % 256) then (hawserref01_Kept.l0 k x0 x1 x13 (wrap64 (x14 + 1))) else (some false)) else (none)) else (none))) else (some true)
def hawserref01_Kept.f (k : Nat) (l0 : List Int) (l1 : List Int) : Option (Bool) := if (l0.length : Int) = (wrap64 ((l1.length : Int) + 9)) then (hawserref01_Kept.l0 k l0 l1 (l0.length : Int) 0) else (some false)
theorem hawserref01_Kept.mono_l : ∀ k, (∀ y0 y1 y2 y3, LeO (hawserref01_Kept.l0 k y0 y1 y2 y3) (hawserref01_Kept.l0 (k + 1) y0 y1 y2 y3))
  | 0 => fun _ _ _ _ r h => by simp [hawserref01_Kept.l0] at h
  | k + 1 => by
    have ih0 := hawserref01_Kept.mono_l k
    · intro y0 y1 y2 y3
      unfold hawserref01_Kept.l0
      repeat' first
      | (with_reducible exact ih0 _ _ _ _)
      | (with_reducible exact LeO.refl _)
      | (with_reducible exact LeO.none _)
      | (with_reducible refine LeO.ite ?_ ?_)
      | (with_reducible refine LeO.bind ?_ (fun _ => ?_))
      | exact ih0 _ _ _ _
      | exact LeO.none _
      | refine LeO.ite ?_ ?_
      | refine LeO.bind ?_ (fun _ => ?_)
theorem hawserref01_Kept.mono : ∀ a0 a1 k, LeO (hawserref01_Kept.f k a0 a1) (hawserref01_Kept.f (k + 1) a0 a1) := by
  intro a0 a1 k
  have ih0 := hawserref01_Kept.mono_l k
  unfold hawserref01_Kept.f
  repeat' first
      | (with_reducible exact ih0 _ _ _ _)
      | (with_reducible exact LeO.refl _)
      | (with_reducible exact LeO.none _)
      | (with_reducible refine LeO.ite ?_ ?_)
      | (with_reducible refine LeO.bind ?_ (fun _ => ?_))
      | exact ih0 _ _ _ _
      | exact LeO.none _
      | refine LeO.ite ?_ ?_
      | refine LeO.bind ?_ (fun _ => ?_)
set_option maxHeartbeats 8000000 in
set_option maxRecDepth 100000 in
theorem hawserref01_Kept.calls (k : Nat) (A0 : Option Addr) (c0 : Nat) (l0 : List Int) (A1 : Option Addr) (c1 : Nat) (l1 : List Int) (r : Bool) (w : World) (hr0 : Kd.C (Kd.int .u8) w A0 l0.length l0) (hc0 : l0.length ≤ c0) (hr1 : Kd.C (Kd.int .u8) w A1 l1.length l1) (hc1 : l1.length ≤ c1) (h : hawserref01_Kept.f k l0 l1 = some r) :
    Calls Try.prog 21 #[.slice A0 l0.length c0, .slice A1 l1.length c1] w fun e w' => e = .returned (.bool r) ∧ Drawn0 w w' := by
  have HR0 := Aside0.mk hr0
  have HC0 := Aside0.mk hc0
  clear hr0 hc0
  have HR1 := Aside0.mk hr1
  have HC1 := Aside0.mk hc1
  clear hr1 hc1
  have H : (if (l0.length : Int) = (wrap64 ((l1.length : Int) + 9)) then (hawserref01_Kept.l0 k l0 l1 (l0.length : Int) 0) else (some false)) = some r := h
  clear h
  by_cases c3 : (l0.length : Int) = (wrap64 ((l1.length : Int) + 9))
  · rw [if_pos c3] at H
    have c3b0 : ((l0.length : Int) == (wrap64 ((l1.length : Int) + 9))) = true := beq_iff_eq.mpr c3
    have c3b1 : ((l0.length : Int) != (wrap64 ((l1.length : Int) + 9))) = false := bne_eq_false_iff_eq.mpr c3
    clear c3
    have H' := Aside0.mk H
    clear H
    go_enter Try.func21, Try.ntmps21
    go_wp2
    repeat (go_quiet (fail); try go_wp2)
    go_loopg [14] k (fun kq v14 w' => ∃ (x14_1 : Int), v14 = .int .i64 x14_1 ∧ Aside0 (hawserref01_Kept.l0 kq l0 l1 (l0.length : Int) x14_1 = some r) ∧ Aside0 (kq ≤ k) ∧ Drawn0 w w')
    case atStart => exact ⟨(0), (by first | rfl | (simp; done) | (simp [*]; done)), H', ⟨Nat.le_refl _⟩, by repeat (first | exact Drawn0.refl _ | apply Drawn0.step)⟩
    case round =>
      clear H'
      try clear c1
      try clear c2
      try clear p2
      try clear c3
      try clear c3b0
      try clear c3b1
      obtain ⟨x14_1, rfl, HA, HK1, ⟨m1, rfl⟩⟩ := hrel
      cases gk with
      | zero => exact absurd HA.out (by simp [hawserref01_Kept.l0])
      | succ k1 =>
        have H := HA.out
        clear HA
        simp only [hawserref01_Kept.l0] at H
        by_cases c4 : x14_1 < (l0.length : Int)
        · rw [if_pos c4] at H
          have c4b0 : decide (x14_1 < (l0.length : Int)) = true := decide_eq_true c4
          have c4b1 : decide ((l0.length : Int) ≤ x14_1) = false := decide_eq_false (by omega)
          have c4b2 : decide ((l0.length : Int) < x14_1) = false := decide_eq_false (by omega)
          have c4b3 : decide (x14_1 ≤ (l0.length : Int)) = true := decide_eq_true (by omega)
          clear c4
          by_cases c5 : x14_1 < (l1.length : Int)
          · rw [if_pos c5] at H
            have c5b0 : decide (x14_1 < (l1.length : Int)) = true := decide_eq_true c5
            have c5b1 : decide ((l1.length : Int) ≤ x14_1) = false := decide_eq_false (by omega)
            have c5b2 : decide ((l1.length : Int) < x14_1) = false := decide_eq_false (by omega)
            have c5b3 : decide (x14_1 ≤ (l1.length : Int)) = true := decide_eq_true (by omega)
            clear c5
            by_cases c6 : 0 ≤ x14_1
            · rw [if_pos c6] at H
              have c6b0 : decide (0 ≤ x14_1) = true := decide_eq_true c6
              have c6b1 : decide (x14_1 < 0) = false := decide_eq_false (by omega)
              clear c6
              by_cases c7 : x14_1 < (l0.length : Int)
              · rw [if_pos c7] at H
                have c7b0 : decide (x14_1 < (l0.length : Int)) = true := decide_eq_true c7
                have c7b1 : decide ((l0.length : Int) ≤ x14_1) = false := decide_eq_false (by omega)
                have c7b2 : decide ((l0.length : Int) < x14_1) = false := decide_eq_false (by omega)
                have c7b3 : decide (x14_1 ≤ (l0.length : Int)) = true := decide_eq_true (by omega)
                clear c7
                by_cases c8 : (rd l0 x14_1) = (rd l1 x14_1)
                · rw [if_pos c8] at H
                  have c8b0 : ((rd l0 x14_1) == (rd l1 x14_1)) = true := beq_iff_eq.mpr c8
                  have c8b1 : ((rd l0 x14_1) != (rd l1 x14_1)) = false := bne_eq_false_iff_eq.mpr c8
                  clear c8
                  have H' := Aside0.mk H
                  clear H
                  have p101 : 0 ≤ (x14_1 : Int) := of_decide_eq_true (by first | (with_reducible assumption) | assumption)
                  have q101 : x14_1 < (l0.length : Int) := of_decide_eq_true (by first | (with_reducible assumption) | assumption)
                  obtain ⟨ad101, e101, hx101_0⟩ := Kd.at_int HR0.out x14_1 p101 q101
                  cases e101
                  replace p101 := eq_true p101
                  replace q101 := eq_true q101
                  have p102 : 0 ≤ (x14_1 : Int) := of_decide_eq_true (by first | (with_reducible assumption) | assumption)
                  have q102 : x14_1 < (l1.length : Int) := of_decide_eq_true (by first | (with_reducible assumption) | assumption)
                  obtain ⟨ad102, e102, hx102_0⟩ := Kd.at_int HR1.out x14_1 p102 q102
                  cases e102
                  replace p102 := eq_true p102
                  replace q102 := eq_true q102
                  go_wp2
                  repeat (go_quiet (fail); try go_wp2)
                  go_roundg k1
                  case measure => have := HK1.out; omega
                  case rel => exact ⟨(wrap64 (x14_1 + 1)), (by first | rfl | (simp; done) | (simp [*]; done)), H', ⟨by have := HK1.out; omega⟩, by repeat (first | exact Drawn0.refl _ | apply Drawn0.step)⟩
                · rw [if_neg c8] at H
                  have c8b0 : ((rd l0 x14_1) == (rd l1 x14_1)) = false := beq_eq_false_iff_ne.mpr c8
                  have c8b1 : ((rd l0 x14_1) != (rd l1 x14_1)) = true := bne_iff_ne.mpr c8
                  obtain rfl := Option.some.inj H
                  have p101 : 0 ≤ (x14_1 : Int) := of_decide_eq_true (by first | (with_reducible assumption) | assumption)
                  have q101 : x14_1 < (l0.length : Int) := of_decide_eq_true (by first | (with_reducible assumption) | assumption)
                  obtain ⟨ad101, e101, hx101_0⟩ := Kd.at_int HR0.out x14_1 p101 q101
                  cases e101
                  replace p101 := eq_true p101
                  replace q101 := eq_true q101
                  have p102 : 0 ≤ (x14_1 : Int) := of_decide_eq_true (by first | (with_reducible assumption) | assumption)
                  have q102 : x14_1 < (l1.length : Int) := of_decide_eq_true (by first | (with_reducible assumption) | assumption)
                  obtain ⟨ad102, e102, hx102_0⟩ := Kd.at_int HR1.out x14_1 p102 q102
                  cases e102
                  replace p102 := eq_true p102
                  replace q102 := eq_true q102
                  go_wp2
                  repeat (go_quiet (fail); try go_wp2)
                  go_ret
                  exact ⟨by first | rfl | (simp; done) | (simp [*]; done), by repeat (first | exact Drawn0.refl _ | apply Drawn0.step)⟩
              · rw [if_neg c7] at H
                exact absurd H (by simp)
            · rw [if_neg c6] at H
              exact absurd H (by simp)
          · rw [if_neg c5] at H
            have c5b0 : decide (x14_1 < (l1.length : Int)) = false := decide_eq_false c5
            have c5b1 : decide ((l1.length : Int) ≤ x14_1) = true := decide_eq_true (by omega)
            clear c5
            by_cases c9 : 0 ≤ x14_1
            · rw [if_pos c9] at H
              have c9b0 : decide (0 ≤ x14_1) = true := decide_eq_true c9
              have c9b1 : decide (x14_1 < 0) = false := decide_eq_false (by omega)
              clear c9
              by_cases c10 : x14_1 < (l0.length : Int)
              · rw [if_pos c10] at H
                have c10b0 : decide (x14_1 < (l0.length : Int)) = true := decide_eq_true c10
                have c10b1 : decide ((l0.length : Int) ≤ x14_1) = false := decide_eq_false (by omega)
                have c10b2 : decide ((l0.length : Int) < x14_1) = false := decide_eq_false (by omega)
                have c10b3 : decide (x14_1 ≤ (l0.length : Int)) = true := decide_eq_true (by omega)
                clear c10
                by_cases c11 : (rd l0 x14_1) = ((wrap64 (201 + x14_1)) % 256)
                · rw [if_pos c11] at H
                  have c11b0 : ((rd l0 x14_1) == ((wrap64 (201 + x14_1)) % 256)) = true := beq_iff_eq.mpr c11
                  have c11b1 : ((rd l0 x14_1) != ((wrap64 (201 + x14_1)) % 256)) = false := bne_eq_false_iff_eq.mpr c11
                  clear c11
                  have H' := Aside0.mk H
                  clear H
                  have p103 : 0 ≤ (x14_1 : Int) := of_decide_eq_true (by first | (with_reducible assumption) | assumption)
                  have q103 : x14_1 < (l0.length : Int) := of_decide_eq_true (by first | (with_reducible assumption) | assumption)
                  obtain ⟨ad103, e103, hx103_0⟩ := Kd.at_int HR0.out x14_1 p103 q103
                  cases e103
                  replace p103 := eq_true p103
                  replace q103 := eq_true q103
                  go_wp2
                  repeat (go_quiet (fail); try go_wp2)
                  go_roundg k1
                  case measure => have := HK1.out; omega
                  case rel => exact ⟨(wrap64 (x14_1 + 1)), (by first | rfl | (simp; done) | (simp [*]; done)), H', ⟨by have := HK1.out; omega⟩, by repeat (first | exact Drawn0.refl _ | apply Drawn0.step)⟩
                · rw [if_neg c11] at H
                  have c11b0 : ((rd l0 x14_1) == ((wrap64 (201 + x14_1)) % 256)) = false := beq_eq_false_iff_ne.mpr c11
                  have c11b1 : ((rd l0 x14_1) != ((wrap64 (201 + x14_1)) % 256)) = true := bne_iff_ne.mpr c11
                  obtain rfl := Option.some.inj H
                  have p103 : 0 ≤ (x14_1 : Int) := of_decide_eq_true (by first | (with_reducible assumption) | assumption)
                  have q103 : x14_1 < (l0.length : Int) := of_decide_eq_true (by first | (with_reducible assumption) | assumption)
                  obtain ⟨ad103, e103, hx103_0⟩ := Kd.at_int HR0.out x14_1 p103 q103
                  cases e103
                  replace p103 := eq_true p103
                  replace q103 := eq_true q103
                  go_wp2
                  repeat (go_quiet (fail); try go_wp2)
                  go_ret
                  exact ⟨by first | rfl | (simp; done) | (simp [*]; done), by repeat (first | exact Drawn0.refl _ | apply Drawn0.step)⟩
              · rw [if_neg c10] at H
                exact absurd H (by simp)
            · rw [if_neg c9] at H
              exact absurd H (by simp)
        · rw [if_neg c4] at H
          have c4b0 : decide (x14_1 < (l0.length : Int)) = false := decide_eq_false c4
          have c4b1 : decide ((l0.length : Int) ≤ x14_1) = true := decide_eq_true (by omega)
          clear c4
          obtain rfl := Option.some.inj H
          go_wp2
          repeat (go_quiet (fail); try go_wp2)
          go_ret
          exact ⟨by first | rfl | (simp; done) | (simp [*]; done), by repeat (first | exact Drawn0.refl _ | apply Drawn0.step)⟩
  · rw [if_neg c3] at H
    have c3b0 : ((l0.length : Int) == (wrap64 ((l1.length : Int) + 9))) = false := beq_eq_false_iff_ne.mpr c3
    have c3b1 : ((l0.length : Int) != (wrap64 ((l1.length : Int) + 9))) = true := bne_iff_ne.mpr c3
    obtain rfl := Option.some.inj H
    go_enter Try.func21, Try.ntmps21
    go_wp2
    repeat (go_quiet (fail); try go_wp2)
    go_ret
    exact ⟨by first | rfl | (simp; done) | (simp [*]; done), by repeat (first | exact Drawn0.refl _ | apply Drawn0.step)⟩

/-! ### leb_Size: function 15 -/
mutual
def leb_Size.l0 : Nat → Int → List Int → Int → Int → Option (Int)
  | 0, _, _, _, _ => none
  | k + 1, x3, x6, x7, x8 => if x8 < x7 then (if 0 ≤ x8 then (if x8 < (x6.length : Int) then (leb_Size.l1 k (wrap64 (x3 + 1)) (rd x6 x8) x6 x7 x8) else (none)) else (none)) else (some x3)
def leb_Size.l1 : Nat → Int → Int → List Int → Int → Int → Option (Int)
  | 0, _, _, _, _, _ => none
  | k + 1, x3, x5, x6, x7, x8 => if x5 > 127 then (leb_Size.l1 k (wrap64 (x3 + 1)) (x5 / 128) x6 x7 x8) else (leb_Size.l0 k x3 x6 x7 (wrap64 (x8 + 1)))
end
def leb_Size.f (k : Nat) (l0 : List Int) : Option (Int) := leb_Size.l0 k 0 l0 (l0.length : Int) 0
theorem leb_Size.mono_l : ∀ k, (∀ y0 y1 y2 y3, LeO (leb_Size.l0 k y0 y1 y2 y3) (leb_Size.l0 (k + 1) y0 y1 y2 y3)) ∧ (∀ y0 y1 y2 y3 y4, LeO (leb_Size.l1 k y0 y1 y2 y3 y4) (leb_Size.l1 (k + 1) y0 y1 y2 y3 y4))
  | 0 => ⟨fun _ _ _ _ r h => by simp [leb_Size.l0] at h, fun _ _ _ _ _ r h => by simp [leb_Size.l1] at h⟩
  | k + 1 => by
    obtain ⟨ih0, ih1⟩ := leb_Size.mono_l k
    refine ⟨?_, ?_⟩
    · intro y0 y1 y2 y3
      unfold leb_Size.l0
      repeat' first
      | (with_reducible exact ih0 _ _ _ _)
      | (with_reducible exact ih1 _ _ _ _ _)
      | (with_reducible exact LeO.refl _)
      | (with_reducible exact LeO.none _)
      | (with_reducible refine LeO.ite ?_ ?_)
      | (with_reducible refine LeO.bind ?_ (fun _ => ?_))
      | exact ih0 _ _ _ _
      | exact ih1 _ _ _ _ _
      | exact LeO.none _
      | refine LeO.ite ?_ ?_
      | refine LeO.bind ?_ (fun _ => ?_)
    · intro y0 y1 y2 y3 y4
      unfold leb_Size.l1
      repeat' first
      | (with_reducible exact ih0 _ _ _ _)
      | (with_reducible exact ih1 _ _ _ _ _)
      | (with_reducible exact LeO.refl _)
      | (with_reducible exact LeO.none _)
      | (with_reducible refine LeO.ite ?_ ?_)
      | (with_reducible refine LeO.bind ?_ (fun _ => ?_))
      | exact ih0 _ _ _ _
      | exact ih1 _ _ _ _ _
      | exact LeO.none _
      | refine LeO.ite ?_ ?_
      | refine LeO.bind ?_ (fun _ => ?_)
theorem leb_Size.mono : ∀ a0 k, LeO (leb_Size.f k a0) (leb_Size.f (k + 1) a0) := by
  intro a0 k
  obtain ⟨ih0, ih1⟩ := leb_Size.mono_l k
  unfold leb_Size.f
  repeat' first
      | (with_reducible exact ih0 _ _ _ _)
      | (with_reducible exact ih1 _ _ _ _ _)
      | (with_reducible exact LeO.refl _)
      | (with_reducible exact LeO.none _)
      | (with_reducible refine LeO.ite ?_ ?_)
      | (with_reducible refine LeO.bind ?_ (fun _ => ?_))
      | exact ih0 _ _ _ _
      | exact ih1 _ _ _ _ _
      | exact LeO.none _
      | refine LeO.ite ?_ ?_
      | refine LeO.bind ?_ (fun _ => ?_)
set_option maxHeartbeats 8000000 in
set_option maxRecDepth 100000 in
theorem leb_Size.calls (k : Nat) (A0 : Option Addr) (c0 : Nat) (l0 : List Int) (r : Int) (w : World) (hr0 : Kd.C (Kd.int .u64) w A0 l0.length l0) (hc0 : l0.length ≤ c0) (h : leb_Size.f k l0 = some r) :
    Calls Try.prog 15 #[.slice A0 l0.length c0] w fun e w' => e = .returned (.int .i64 r) ∧ Drawn0 w w' := by
  have HR0 := Aside0.mk hr0
  have HC0 := Aside0.mk hc0
  clear hr0 hc0
  have H : (leb_Size.l0 k 0 l0 (l0.length : Int) 0) = some r := h
  clear h
  have H' := Aside0.mk H
  clear H
  go_enter Try.func15, Try.ntmps15
  go_wp2
  go_loopg [3, 8] k (fun kq v3 v8 w' => ∃ (x3_1 : Int) (x8_1 : Int), v3 = .int .i64 x3_1 ∧ v8 = .int .i64 x8_1 ∧ Aside0 (leb_Size.l0 kq x3_1 l0 (l0.length : Int) x8_1 = some r) ∧ Aside0 (kq ≤ k) ∧ Drawn0 w w')
  case atStart => exact ⟨(0), (0), (by first | rfl | (simp; done) | (simp [*]; done)), (by first | rfl | (simp; done) | (simp [*]; done)), H', ⟨Nat.le_refl _⟩, by repeat (first | exact Drawn0.refl _ | apply Drawn0.step)⟩
  case round =>
    clear H'
    try clear c1
    obtain ⟨x3_1, x8_1, rfl, rfl, HA, HK1, ⟨m1, rfl⟩⟩ := hrel
    cases gk with
    | zero => exact absurd HA.out (by simp [leb_Size.l0])
    | succ k1 =>
      have H := HA.out
      clear HA
      simp only [leb_Size.l0] at H
      by_cases c2 : x8_1 < (l0.length : Int)
      · rw [if_pos c2] at H
        have c2b0 : decide (x8_1 < (l0.length : Int)) = true := decide_eq_true c2
        clear c2
        by_cases c3 : 0 ≤ x8_1
        · rw [if_pos c3] at H
          have c3b0 : decide (0 ≤ x8_1) = true := decide_eq_true c3
          clear c3
          by_cases c4 : x8_1 < (l0.length : Int)
          · rw [if_pos c4] at H
            have c4b0 : decide (x8_1 < (l0.length : Int)) = true := decide_eq_true c4
            clear c4
            have H' := Aside0.mk H
            clear H
            have p104 : 0 ≤ (x8_1 : Int) := of_decide_eq_true (by first | (with_reducible assumption) | assumption)
            have q104 : x8_1 < (l0.length : Int) := of_decide_eq_true (by first | (with_reducible assumption) | assumption)
            obtain ⟨ad104, e104, hx104_0⟩ := Kd.at_int HR0.out x8_1 p104 q104
            cases e104
            replace p104 := eq_true p104
            replace q104 := eq_true q104
            go_wp2
            go_loopg [3, 5] k1 (fun kq v3 v5 w' => ∃ (x3_2 : Int) (x5_2 : Int), v3 = .int .i64 x3_2 ∧ v5 = .int .u64 x5_2 ∧ Aside0 (leb_Size.l1 kq x3_2 x5_2 l0 (l0.length : Int) x8_1 = some r) ∧ Aside0 (kq ≤ k1) ∧ Drawn0 w w')
            case atStart => exact ⟨(wrap64 (x3_1 + 1)), (rd l0 x8_1), (by first | rfl | (simp; done) | (simp [*]; done)), (by first | rfl | (simp; done) | (simp [*]; done)), H', ⟨Nat.le_refl _⟩, by repeat (first | exact Drawn0.refl _ | apply Drawn0.step)⟩
            case round =>
              clear H'
              try clear c1
              try clear p1
              try clear q1
              try clear hx1
              try clear c2
              try clear c2b0
              try clear p2
              try clear c3
              try clear c3b0
              try clear c4
              try clear c4b0
              try clear hx104_0
              try clear p104
              try clear q104
              obtain ⟨x3_2, x5_2, rfl, rfl, HA, HK2, ⟨m2, rfl⟩⟩ := hrel
              cases gk with
              | zero => exact absurd HA.out (by simp [leb_Size.l1])
              | succ k2 =>
                have H := HA.out
                clear HA
                simp only [leb_Size.l1] at H
                by_cases c5 : x5_2 > 127
                · rw [if_pos c5] at H
                  have c5b0 : decide (127 < x5_2) = true := decide_eq_true c5
                  clear c5
                  have H' := Aside0.mk H
                  clear H
                  go_wp2
                  go_roundg k2
                  case measure => have := HK1.out; have := HK2.out; omega
                  case rel => exact ⟨(wrap64 (x3_2 + 1)), (x5_2 / 128), (by first | rfl | (simp; done) | (simp [*]; done)), (by first | rfl | (simp; done) | (simp [*]; done)), H', ⟨by have := HK1.out; have := HK2.out; omega⟩, by repeat (first | exact Drawn0.refl _ | apply Drawn0.step)⟩
                · rw [if_neg c5] at H
                  have c5b0 : decide (127 < x5_2) = false := decide_eq_false c5
                  clear c5
                  have H' := Aside0.mk H
                  clear H
                  go_wp2
                  go_roundg k2
                  case measure => have := HK1.out; have := HK2.out; omega
                  case rel => exact ⟨(x3_2), (wrap64 (x8_1 + 1)), (by first | rfl | (simp; done) | (simp [*]; done)), (by first | rfl | (simp; done) | (simp [*]; done)), H', ⟨by have := HK1.out; have := HK2.out; omega⟩, by repeat (first | exact Drawn0.refl _ | apply Drawn0.step)⟩
          · rw [if_neg c4] at H
            exact absurd H (by simp)
        · rw [if_neg c3] at H
          exact absurd H (by simp)
      · rw [if_neg c2] at H
        have c2b0 : decide (x8_1 < (l0.length : Int)) = false := decide_eq_false c2
        clear c2
        obtain rfl := Option.some.inj H
        go_wp2
        go_ret
        exact ⟨by first | rfl | (simp; done) | (simp [*]; done), by repeat (first | exact Drawn0.refl _ | apply Drawn0.step)⟩

end Go.Proofs.Ytcpdnoaebbbgcaa.G
