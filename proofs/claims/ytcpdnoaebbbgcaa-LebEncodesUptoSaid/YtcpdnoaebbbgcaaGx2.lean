-- Written for this claim by a program of this session (wip/xprint.py), by means of the kit's print. Not trusted: Lean checks it.
import Derived.Test.YtcpdnoaebbbgcaaGx0
import Derived.Test.YtcpdnoaebbbgcaaGx1
namespace Go.Proofs.Ytcpdnoaebbbgcaa.G
open Go.RowKit Go.Proofs.YtcpdnoaebbbgcaaW.PrintWords Go.Proofs.YtcpdnoaebbbgcaaW.PrintLast Go.Proofs.YtcpdnoaebbbgcaaW.PrintMore
attribute [local go_sem] max2_int min2_int max_two min_two max_three min_three max_four min_four   -- for this text's walks alone
set_option linter.unusedVariables false
set_option linter.unusedSimpArgs false

/-! ### hawserref01_Encode: function 22 -/
def hawserref01_Encode.l0 : Nat → List Int → List Int → Int → Int → Option (List Int)
  | 0, _, _, _, _ => none
  | k + 1, x3, x6, x7, x8 => if x8 < x7 then (if 0 ≤ x8 then (if x8 < (x6.length : Int) then ((hawserref01_Bytes.f k (rd x6 x8)).bind fun t125 => (if x3.length + t125.length < 140737488355328 then (hawserref01_Encode.l0 k (x3 ++ t125) x6 x7 (wrap64 (x8 + 1))) else (none))) else (none)) else (none)) else (some x3)
def hawserref01_Encode.f (k : Nat) (l0 : List Int) : Option (List Int) := hawserref01_Encode.l0 k ([] : List Int) l0 (l0.length : Int) 0
theorem hawserref01_Encode.mono_l : ∀ k, (∀ y0 y1 y2 y3, LeO (hawserref01_Encode.l0 k y0 y1 y2 y3) (hawserref01_Encode.l0 (k + 1) y0 y1 y2 y3))
  | 0 => fun _ _ _ _ r h => by simp [hawserref01_Encode.l0] at h
  | k + 1 => by
    have ih0 := hawserref01_Encode.mono_l k
    · intro y0 y1 y2 y3
      unfold hawserref01_Encode.l0
      repeat' first
      | (with_reducible exact ih0 _ _ _ _)
      | (with_reducible exact hawserref01_Bytes.mono _ _)
      | (with_reducible exact LeO.refl _)
      | (with_reducible exact LeO.none _)
      | (with_reducible refine LeO.ite ?_ ?_)
      | (with_reducible refine LeO.bind ?_ (fun _ => ?_))
      | exact ih0 _ _ _ _
      | exact hawserref01_Bytes.mono _ _
      | exact LeO.none _
      | refine LeO.ite ?_ ?_
      | refine LeO.bind ?_ (fun _ => ?_)
theorem hawserref01_Encode.mono : ∀ a0 k, LeO (hawserref01_Encode.f k a0) (hawserref01_Encode.f (k + 1) a0) := by
  intro a0 k
  have ih0 := hawserref01_Encode.mono_l k
  unfold hawserref01_Encode.f
  repeat' first
      | (with_reducible exact ih0 _ _ _ _)
      | (with_reducible exact hawserref01_Bytes.mono _ _)
      | (with_reducible exact LeO.refl _)
      | (with_reducible exact LeO.none _)
      | (with_reducible refine LeO.ite ?_ ?_)
      | (with_reducible refine LeO.bind ?_ (fun _ => ?_))
      | exact ih0 _ _ _ _
      | exact hawserref01_Bytes.mono _ _
      | exact LeO.none _
      | refine LeO.ite ?_ ?_
      | refine LeO.bind ?_ (fun _ => ?_)
set_option maxHeartbeats 8000000 in
set_option maxRecDepth 100000 in
theorem hawserref01_Encode.calls (k : Nat) (A0 : Option Addr) (c0 : Nat) (l0 : List Int) (r : List Int) (w : World) (hr0 : Kd.C (Kd.int .u64) w A0 l0.length l0) (hc0 : l0.length ≤ c0) (h : hawserref01_Encode.f k l0 = some r) :
    Calls Try.prog 22 #[.slice A0 l0.length c0] w fun e w' => ∃ v0_ : Value, e = .returned (v0_) ∧ Kd.R (Kd.int .u8) 5 w' w.heap.size (fun _ => True) v0_ r ∧ Below w.heap.size w w' := by
  have HR0 := Aside0.mk hr0
  have HC0 := Aside0.mk hc0
  clear hr0 hc0
  have HB := Aside0.mk (Below.refl w.heap.size w)
  have H : (hawserref01_Encode.l0 k ([] : List Int) l0 (l0.length : Int) 0) = some r := h
  clear h
  have H' := Aside0.mk H
  clear H
  go_enter Try.func22, Try.ntmps22
  go_wp2
  go_loopg [3, 8] k (fun kq v3 v8 w' => ∃ (x3_1 : List Int) (x8_1 : Int), v8 = .int .i64 x8_1 ∧ Aside0 (hawserref01_Encode.l0 kq x3_1 l0 (l0.length : Int) x8_1 = some r) ∧ Aside0 (kq ≤ k) ∧ Aside0 (Kd.R (Kd.int .u8) 5 w' w.heap.size (fun _ => True) v3 x3_1) ∧ Aside0 (Below w.heap.size w w'))
  case atStart => exact ⟨(([] : List Int)), (0), (by first | rfl | (simp; done) | (simp [*]; done)), H', ⟨Nat.le_refl _⟩, ⟨by first | exact Kd.R_nil _ _ _ _ _ | exact Kd.N_nil _ _ _ _ _ | exact Kd.V_nil _ _ _ _ _ | exact Kd.Q_nil _ _ _ _ _ | exact Kd.S_nil _ _ _ _ _⟩, ⟨by repeat (first | (with_reducible first | exact HB.out | apply below_alloc | apply pw_below_drewN | apply below_drew1) | exact HB.out)⟩⟩
  case round =>
    clear H'
    obtain ⟨x3_1, x8_1, rfl, HA, HK1, HO_3, HB⟩ := hrel
    cases gk with
    | zero => exact absurd HA.out (by simp [hawserref01_Encode.l0])
    | succ k1 =>
      have H := HA.out
      clear HA
      simp only [hawserref01_Encode.l0] at H
      by_cases c2 : x8_1 < (l0.length : Int)
      · rw [if_pos c2] at H
        have c2b0 : decide (x8_1 < (l0.length : Int)) = true := decide_eq_true c2
        clear c2
        by_cases c3 : 0 ≤ x8_1
        · rw [if_pos c3] at H
          have c3b0 : decide (0 ≤ x8_1) = true := decide_eq_true c3
          clear c3
          by_cases c4 : x8_1 < (l0.length : Int)
          · rw [if_pos c4] at H
            have c4b0 : decide (x8_1 < (l0.length : Int)) = true := decide_eq_true c4
            clear c4
            replace H := Option.bind_eq_some_iff.mp H
            obtain ⟨t125, A50, H⟩ := H
            replace H : (if x3_1.length + t125.length < 140737488355328 then (hawserref01_Encode.l0 k1 (x3_1 ++ t125) l0 (l0.length : Int) (wrap64 (x8_1 + 1))) else (none)) = some r := H
            have A5 := Aside0.mk A50
            clear A50
            by_cases c6 : x3_1.length + t125.length < 140737488355328
            · rw [if_pos c6] at H
              have LMc6 := Aside0.mk c6
              clear c6
              obtain ⟨y128, hy128⟩ : ∃ y_ : List Int, y_ = (x3_1 ++ t125) := ⟨_, rfl⟩
              replace H : (hawserref01_Encode.l0 k1 y128 l0 (l0.length : Int) (wrap64 (x8_1 + 1))) = some r := by first | (rw [hy128]; with_reducible exact H) | (have H2_ := (Option.bind_some _ _).symm.trans H; rw [hy128]; with_reducible exact H2_) | (have H2_ := (Option.bind_some _ _).symm.trans H; with_reducible exact H2_) | with_reducible exact H | (rw [hy128]; exact H) | exact H
              have Ny128 := Aside0.mk hy128
              clear hy128
              have H' := Aside0.mk H
              clear H
              have p124 : 0 ≤ (x8_1 : Int) := of_decide_eq_true (by first | (with_reducible assumption) | assumption)
              have q124 : x8_1 < (l0.length : Int) := of_decide_eq_true (by first | (with_reducible assumption) | assumption)
              obtain ⟨ad124, e124, hx124_0⟩ := Kd.at_int HR0.out x8_1 p124 q124
              cases e124
              replace hx124_0 := (HB.out.cell (World.block_lt_of_cell? w _ hx124_0)).trans hx124_0
              replace p124 := eq_true p124
              replace q124 := eq_true q124
              go_wp2_with (first | ((with_reducible refine gate_callee (f := 31) rfl ?_); refine goesL_ (some 14) rfl rfl Try.func31 (by kernel_rfl) rfl #[.int .u64 (rd l0 x8_1)] rfl (by (try simp only [List.map_toArray, List.map_cons, List.map_nil]); first | done | rfl | (simp only [List.length_drop, List.length_take]; rfl)) ?_; (with_reducible refine (hawserref01_Bytes.calls k1 (rd l0 x8_1) t125 _ A5.out).mono ?_); rintro e w7 ⟨v126, rfl, ho0, hb⟩; refine ⟨_, rfl, ?_⟩; have n0_ := Aside0.mk (Kd.R_elder' (by (with_reducible repeat (first | apply Kd.R_alloc | apply Kd.R_drewN | apply Kd.R_drew)); exact HO_3.out) (Kd.R_base ho0) hb); have n1_ := Aside0.mk (Kd.R_lower (Kd.R_new' ho0 (Kd.R_lt (by (with_reducible repeat (first | apply Kd.R_alloc | apply Kd.R_drewN | apply Kd.R_drew)); exact HO_3.out))) (below_size (by repeat (first | (with_reducible first | exact HB.out | apply below_alloc | apply pw_below_drewN | apply below_drew1) | exact HB.out)))); have n2_ := Aside0.mk (below_step (by repeat (first | (with_reducible first | exact HB.out | apply below_alloc | apply pw_below_drewN | apply below_drew1) | exact HB.out)) hb); clear HO_3; clear HB; have HO_3 := n0_; have HO127 := n1_; have HB := n2_; clear n0_ n1_ n2_; (try clear hb); (try clear hb2); (try clear hk); (try clear hi); (try clear ho0); obtain ⟨Ao9, co9, eo9⟩ := Kd.R_slice HO127.out; subst eo9) | ((with_reducible refine gate_builtin (b := .append) (xs := #[.tmp 12, .tmp 14]) rfl ?_); at_builtin; refine Kd.R_append_rows (Kd.int .u8) (w0 := w) w.heap.size rfl (.tmp 12) (.tmp 14) 32 5 (.int .u8 0) 1 rfl Try.underlying32 info5 rfl (by decide) (by omega) u3 x3_1 t125 _ _ _ (fun k_ => some k_ ≠ (.slice Ao9 t125.length co9 : Value).ownBlock) (fun _ => False) rfl rfl ?aO ?aR (fun _ _ h => h) (fun _ h => h.elim) ?aF ?aB ?aS ?aL ?_; (case aR => repeat (first | exact (Kd.R_reads' HO127.out).2.2 | (with_reducible refine Kd.C_alloc ?_ _) | (with_reducible refine Kd.C_drewN ?_ _) | (with_reducible refine Kd.C_drew ?_))); (case aB => exact (by repeat (first | (with_reducible first | exact HB.out | apply below_alloc | apply pw_below_drewN | apply below_drew1) | exact HB.out))); (case aF => exact (fun k_ hk => Kd.fresh' (Kd.R_lt (by (with_reducible repeat (first | apply Kd.R_alloc | apply Kd.R_drewN | apply Kd.R_drew)); exact HO127.out)) k_ hk)); (case aO => exact (by (with_reducible repeat (first | apply Kd.R_alloc | apply Kd.R_drewN | apply Kd.R_drew)); exact Kd.R_mono HO_3.out (fun _ hk => hk.2))); (case aS => exact (below_size (by repeat (first | (with_reducible first | exact HB.out | apply below_alloc | apply pw_below_drewN | apply below_drew1) | exact HB.out)))); (case aL => have := LMc6.out; omega); intro v129 w8 ho hb hg hat; rw [← Ny128.out] at ho; have n0_ := Aside0.mk (Kd.R_after (ok := (fun _ => True)) (by (with_reducible repeat (first | apply Kd.R_alloc | apply Kd.R_drewN | apply Kd.R_drew)); exact HO127.out) hg hat); have n1_ := Aside0.mk (hb); have n2_ := Aside0.mk (ho); clear HO127; clear HB; clear HO_3; have HO127 := n0_; have HB := n1_; have HO130 := n2_; clear n0_ n1_ n2_; clear ho hb hg hat))
              go_roundg k1
              case measure => have := HK1.out; omega
              case rel => exact ⟨(y128), (wrap64 (x8_1 + 1)), (by first | rfl | (simp; done) | (simp [*]; done)), H', ⟨by have := HK1.out; omega⟩, ⟨by (with_reducible repeat (first | apply Kd.R_alloc | apply Kd.R_drewN | apply Kd.R_drew)); exact Kd.R_mono HO130.out (fun _ hk => trivial)⟩, ⟨by repeat (first | (with_reducible first | exact HB.out | apply below_alloc | apply pw_below_drewN | apply below_drew1) | exact HB.out)⟩⟩
            · rw [if_neg c6] at H
              exact absurd H (by simp)
          · rw [if_neg c4] at H
            exact absurd H (by simp)
        · rw [if_neg c3] at H
          exact absurd H (by simp)
      · rw [if_neg c2] at H
        have c2b0 : decide (x8_1 < (l0.length : Int)) = false := decide_eq_false c2
        clear c2
        obtain rfl := Option.some.inj H
        go_wp2
        go_ret
        exact ⟨_, by first | rfl | (simp [errW_none, errW_some] <;> rfl) | (simp [*, errW_none, errW_some] <;> rfl), by (with_reducible repeat (first | apply Kd.R_alloc | apply Kd.R_drewN | apply Kd.R_drew)); exact HO_3.out, by repeat (first | (with_reducible first | exact HB.out | apply below_alloc | apply pw_below_drewN | apply below_drew1) | exact HB.out)⟩

/-! ### hawserlaw01_numbers: function 23 -/
open Go.Proofs.Ytcpdnoaebbbgcaa.Blocks
def numMarks (n : Nat) : List Int := [1000 + (n : Int), 1001 + (n : Int), 1002 + (n : Int)]
def numAt (l : List Int) (j : Nat) : List Int := l ++ ((numMarks l.length).take j ++ List.replicate (3 - j) 0)
theorem numAt_len (l : List Int) (j : Nat) (h : j ≤ 3) : (numAt l j).length = l.length + 3 := by simp [numAt, numMarks]; omega
theorem numAt_zero (l : List Int) : numAt l 0 = l ++ List.replicate 3 0 := by simp [numAt]
theorem numAt_full (l : List Int) : numAt l 3 = l ++ numMarks l.length := by simp [numAt, numMarks]
theorem numAt_set (l : List Int) (j : Nat) (h : j < 3) : (numAt l j).set (l.length + j) (1000 + ((l.length + j : Nat) : Int)) = numAt l (j + 1) := by
  unfold numAt
  rw [List.set_append_right _ _ (by omega), show l.length + j - l.length = j by omega]
  congr 1
  obtain rfl | rfl | rfl : j = 0 ∨ j = 1 ∨ j = 2 := by omega
  · simp [numMarks, List.replicate]
  · simp [numMarks, List.replicate]; omega
  · simp [numMarks, List.replicate]; omega

def hawserlaw01_numbers.f (l0 : List Int) : Option (List Int × List Int) := if l0.length ≤ 1099511627776 then some (l0 ++ numMarks l0.length, l0) else none

theorem infoU : (Try.prog.info? 22).map (fun i => (i.zero, i.size, i.bytes)) = some (some (.int .u64 0), 1, 8) := by kernel_rfl
set_option maxHeartbeats 800000 in
theorem num_walk (A0 : Option Addr) (c0 : Nat) (l0 : List Int) (w : World) (hr0 : Kd.C (Kd.int .u64) w A0 l0.length l0) (hc0 : l0.length ≤ c0) (hn : l0.length ≤ 1099511627776) :
    Calls Try.prog 23 #[.slice A0 l0.length c0] w fun e w' => ∃ c g, e = .returned (.tuple #[.slice (some ⟨g, 0, none⟩) (l0.length + 3) (l0.length + 3), .slice (some ⟨g, 0, none⟩) l0.length c]) ∧ l0.length ≤ c ∧ w.heap.size ≤ g ∧
      Hid (w'.heap[g]? = some (.cells (nums .u64 (l0 ++ numMarks l0.length)).toArray 22 (0, 0))) ∧ Below w.heap.size w w' := by
  have HR0 := Aside0.mk hr0
  have HC0 := Aside0.mk hc0
  clear hr0 hc0
  have hmk : ∀ W : World, (Instr.makeSlice 28 (.int .i64 ((l0.length : Int) + 3)) (.int .i64 ((l0.length : Int) + 3))).run Try.prog W = .ok (.slice (some ⟨W.heap.size, 0, none⟩) (l0.length + 3) (l0.length + 3)) (W.alloc (.cells (madeCells #[.int .u64 0] (l0.length + 3)) 22)) := by
    intro W
    exact print_make 28 22 .u64 8 Try.underlying28 infoU (by decide) (l0.length + 3) (by omega) W
  have hszB : (Try.prog.info? 22).map (·.size) = some 1 := by kernel_rfl
  have hb : Below w.heap.size w (w.alloc (.cells (madeCells #[.int .u64 0] (l0.length + 3)) 22)) := (Below.refl _ _).alloc (Nat.le_refl _) _
  have hh : Hid ((w.alloc (.cells (madeCells #[.int .u64 0] (l0.length + 3)) 22)).heap[w.heap.size]? = some (.cells (nums .u64 (List.replicate (l0.length + 3) 0)).toArray 22 (0, 0))) := by
    show (w.alloc _).heap[w.heap.size]? = _
    rw [heap_alloc_new, madeCells_nums]
  have HA : Hid (0 < (nums .u64 l0).length → (some ⟨w.heap.size, 0, none⟩ : Option Addr) = some ⟨w.heap.size, 0, none⟩ ∧ ∃ ad, A0 = some ad ∧ ∀ j v, (nums .u64 l0)[j]? = some v → (w.alloc (.cells (madeCells #[.int .u64 0] (l0.length + 3)) 22)).cell? (ad.add j) = some v) :=
    fun hp => ⟨rfl, cells_of_C (Kd.C_below HR0.out hb) (by rwa [nums_length] at hp)⟩
  have HB0 := Aside0.mk hb
  clear hb
  go_enter Try.func23, Try.ntmps23
  go_wp2_with ((with_reducible refine wpList_copy_splice rfl (.tmp 10) (.tmp 11) 28 28 rfl 22 Try.underlying28 hszB (some ⟨w.heap.size, 0, none⟩) A0 (l0.length + 3) (l0.length + 3) l0.length c0 rfl rfl w.heap.size 0 (nums .u64 (List.replicate (l0.length + 3) 0)) 22 hh.out (nums .u64 l0) ?c1 HA.out ?c2 ?c3 w.heap.size w HB0.out (Nat.le_refl _) ?_); (case c1 => rw [nums_length]; exact min_self_add _ _); (case c2 => rw [nums_length, nums_length, List.length_replicate]; omega); (case c3 => exact nums_one _ _); intro w1 hg1 hb1)
  have hz : splice (nums .u64 (List.replicate (l0.length + 3) 0)) 0 (nums .u64 l0) = nums .u64 (numAt l0 0) := by
    rw [numAt_zero]
    simp [splice, nums]
  rw [hz] at hg1
  clear hh HA HB0 hmk
  have HG1 := Aside0.mk hg1
  have HB1 := Aside0.mk hb1
  clear hg1 hb1
  go_loopw [5] (fun v wr => ∃ j : Nat, j ≤ 3 ∧ v = .int .i64 ((l0.length + j : Nat) : Int) ∧ Hid (wr.heap[w.heap.size]? = some (.cells (nums .u64 (numAt l0 j)).toArray 22 (0, 0))) ∧ Below w.heap.size w wr) (fun v _ => l0.length + 3 - (intOf v).toNat)
  case atStart => exact ⟨0, by omega, rfl, HG1.out, HB1.out⟩
  case round =>
    obtain ⟨j, hj, rfl, hh, hb⟩ := hrel
    by_cases hlt : j < 3
    · have hc : wr.cell? ⟨w.heap.size, l0.length + j, none⟩ = some (.int .u64 ((numAt l0 j).getD (l0.length + j) 0)) := by
        rw [blk_cell hh.out]
        have : l0.length + j < (numAt l0 j).length := by rw [numAt_len _ _ hj]; omega
        simp [nums, List.getElem?_eq_getElem this, List.getD_eq_getElem?_getD]
      have hf := blk_frozen hh.out (l0.length + j)
      have hb1 : ((l0.length + j : Nat) : Int) < (l0.length : Int) + 3 := by omega
      go_wp2
      go_roundw
      case rel =>
        refine ⟨j + 1, by omega, by go_num, ?_, hb.setCell (Nat.le_refl _) _⟩
        have := blk_set hh.out (l0.length + j) (.int .u64 (1000 + ((l0.length + j : Nat) : Int)))
        rw [nums_set, numAt_set _ _ hlt] at this
        exact this
      case measure => simp [intOf]; omega
    · have : j = 3 := by omega
      subst this
      rw [numAt_full] at hh
      go_wp2
      go_quiet (fail)
      go_wp2
      go_ret2
      exact ⟨l0.length + 3, w.heap.size, rfl, by omega, Nat.le_refl _, hh, pw_below_drewN hb _⟩
theorem hawserlaw01_numbers.calls (A0 : Option Addr) (c0 : Nat) (l0 : List Int) (r1 : List Int) (r2 : List Int) (w : World) (hr0 : Kd.C (Kd.int .u64) w A0 l0.length l0) (hc0 : l0.length ≤ c0) (h : hawserlaw01_numbers.f l0 = some (r1, r2)) :
    Calls Try.prog 23 #[.slice A0 l0.length c0] w fun e w' => ∃ v0_ v1_ : Value, e = .returned (.tuple #[v0_, v1_]) ∧ Kd.V (Kd.int .u64) 22 w' w.heap.size (fun k_ => (w.heap.size ≤ k_)) v0_ r1 ∧ Kd.V (Kd.int .u64) 22 w' w.heap.size (fun k_ => (w.heap.size ≤ k_)) v1_ r2 ∧ Below w.heap.size w w' := by
  unfold hawserlaw01_numbers.f at h
  split at h
  · rename_i hn
    obtain ⟨rfl, rfl⟩ : l0 ++ numMarks l0.length = r1 ∧ l0 = r2 := by
      have := Option.some.inj h; exact ⟨congrArg Prod.fst this, congrArg Prod.snd this⟩
    refine (num_walk A0 c0 l0 w hr0 hc0 hn).mono ?_
    rintro e w' ⟨c, g, rfl, hc, hg, hh, hb⟩
    have hL : (l0 ++ numMarks l0.length).length = l0.length + 3 := by rw [List.length_append]; rfl
    refine ⟨_, _, rfl, ?_, ?_, hb⟩
    · have := V_of_blk (n := l0.length + 3) (c := l0.length + 3) (base := w.heap.size) (ok := fun k_ => w.heap.size ≤ k_) hh.out (o := 0) (by omega) (by omega) (Nat.le_refl _) hg
      rwa [List.drop_zero, List.take_of_length_le (by omega)] at this
    · have := V_of_blk (n := l0.length) (c := c) (base := w.heap.size) (ok := fun k_ => w.heap.size ≤ k_) hh.out (o := 0) (by omega) (by omega) hc hg
      rwa [List.drop_zero, List.take_append_of_le_length (Nat.le_refl _), List.take_length] at this
  · cases h

/-! ### hawserref01_mark: function 32 -/
def hawserref01_mark.f (a0 : Int) (a1 : Int) : Option (Int) := some ((wrap64 ((wrap64 ((wrap64 (a0 * 37)) + (wrap64 (a1 * 11)))) + 5)) % 256)
set_option maxHeartbeats 8000000 in
set_option maxRecDepth 100000 in
theorem hawserref01_mark.calls (a0 : Int) (a1 : Int) (r : Int) (w : World) (h : hawserref01_mark.f a0 a1 = some r) :
    Calls Try.prog 32 #[.int .i64 a0, .int .i64 a1] w fun e w' => e = .returned (.int .u8 r) ∧ Drawn0 w w' := by
  have H : (some ((wrap64 ((wrap64 ((wrap64 (a0 * 37)) + (wrap64 (a1 * 11)))) + 5)) % 256)) = some r := h
  clear h
  obtain rfl := Option.some.inj H
  go_enter Try.func32, Try.ntmps32
  go_wp2
  go_ret
  exact ⟨by first | rfl | (simp; done) | (simp [*]; done), by repeat (first | exact Drawn0.refl _ | apply Drawn0.step)⟩

end Go.Proofs.Ytcpdnoaebbbgcaa.G
