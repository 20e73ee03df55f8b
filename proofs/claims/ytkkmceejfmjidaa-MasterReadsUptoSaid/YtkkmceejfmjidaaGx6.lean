-- Written for this claim by a program of this session (wip/xprint.py), by means of the kit's print. Not trusted: Lean checks it.
import Derived.Test.YtkkmceejfmjidaaGx0
import Derived.Test.YtkkmceejfmjidaaGx1
namespace Go.Proofs.Ytkkmceejfmjidaa.G
open Go.RowKit Go.Proofs.YtkkmceejfmjidaaW.PrintWords Go.Proofs.YtkkmceejfmjidaaW.PrintLast Go.Proofs.YtkkmceejfmjidaaW.PrintMore
attribute [local go_sem] max2_int min2_int max_two min_two max_three min_three max_four min_four   -- for this text's walks alone
set_option linter.unusedVariables false
set_option linter.unusedSimpArgs false

/-! ### hawserlaw21_plain: function 12 -/
def hawserlaw21_plain.f (a0_0 : Int) (l0_1 : List Int) (a0_2 : Int) (a0_3 : Int) (a0_4 : Int) (a0_5 : Int) : Option (Int × List Int × Int × Int × Int × Int) := some (a0_0, l0_1, a0_2, a0_3, a0_4, a0_5)
set_option maxHeartbeats 8000000 in
set_option maxRecDepth 100000 in
theorem hawserlaw21_plain.calls (a0_0 : Int) (P0_1_ : Nat → Prop) (A0_1 : Option Addr) (c0_1 : Nat) (l0_1 : List Int) (a0_2 : Int) (a0_3 : Int) (a0_4 : Int) (a0_5 : Int) (r1 : Int) (r2 : List Int) (r3 : Int) (r4 : Int) (r5 : Int) (r6 : Int) (w : World) (hs0_1 : Kd.V (Kd.int .i64) 3 w w.heap.size (fun k_ => P0_1_ k_) (.slice A0_1 l0_1.length c0_1) l0_1) (h : hawserlaw21_plain.f a0_0 l0_1 a0_2 a0_3 a0_4 a0_5 = some (r1, r2, r3, r4, r5, r6)) :
    Calls Try.prog 12 #[.agg #[.int .i64 a0_0, .slice A0_1 l0_1.length c0_1, .int .i64 a0_2, .int .i64 a0_3, .int .i64 a0_4, .int .i64 a0_5]] w fun e w' => ∃ v1_ : Value, e = .returned (.agg #[.int .i64 r1, v1_, .int .i64 r3, .int .i64 r4, .int .i64 r5, .int .i64 r6]) ∧ Kd.V (Kd.int .i64) 3 w' w.heap.size (fun k_ => (P0_1_ k_ ∨ w.heap.size ≤ k_)) v1_ r2 ∧ Below w.heap.size w w' := by
  have hu28 := Try.underlying28
  have hu27 := Try.underlying27
  have hu24 := Try.underlying24
  have HO0_1 := A_ (show Kd.V (Kd.int .i64) 3 w w.heap.size (fun k_ => (P0_1_ k_ ∨ w.heap.size ≤ k_)) (.slice A0_1 l0_1.length c0_1) l0_1 from Kd.V_mono hs0_1 (fun k_ hk => .inl hk))
  have HB := A_ (Below.refl w.heap.size w)
  have H : (some (a0_0, l0_1, a0_2, a0_3, a0_4, a0_5)) = some (r1, r2, r3, r4, r5, r6) := h
  clear h
  simp only [Option.some.injEq, Prod.mk.injEq] at H
  obtain ⟨rfl, rfl, rfl, rfl, rfl, rfl⟩ := H
  go_enter Try.func12, Try.ntmps12
  go_wp2_with (first | ((with_reducible refine gate_dst (N := 1) rfl ?_); refine box_event ?hg (N := 1) ?hd (cs := #[.int .i64 a0_0, .slice A0_1 l0_1.length c0_1, .int .i64 a0_2, .int .i64 a0_3, .int .i64 a0_4, .int .i64 a0_5]) (t := 28) ?hr ?_; (case hd => rfl); (case hg => rfl); (case hr => first | (go_simp; done) | (go_simp; rfl)); intro gb148 hg w2 hbox hb; have n0_ := A_ (Kd.V_below (Kd.V_elderB (by (with_reducible repeat (first | apply vA_ | apply vN_ | apply vD_)); exact HO0_1.out) gb148 (Nat.le_of_eq hg.symm)) hb); have n1_ := A_ (below_step (by repeat (first | (with_reducible first | exact HB.out | apply pA_ | apply pN_ | apply pD_) | exact HB.out)) hb); have n2_ := A_ (hbox); have n3_ := A_ ((by rw [hg]; exact (below_size (by repeat (first | (with_reducible first | exact HB.out | apply pA_ | apply pN_ | apply pD_) | exact HB.out))) : w.heap.size ≤ gb148)); have n4_ := A_ ((by rw [hg]; exact (below_size (by repeat (first | (with_reducible first | exact HB.out | apply pA_ | apply pN_ | apply pD_) | exact HB.out))) : w.heap.size ≤ gb148)); clear HO0_1; clear HB; have HO0_1 := n0_; have HB := n1_; have BK148 := n2_; have GW148 := n3_; have GE148 := n4_; clear n0_ n1_ n2_ n3_ n4_; clear hb hbox hg) | ((with_reducible refine gate_dst (N := 2) rfl ?_); refine box_event ?hg (N := 2) ?hd (cs := #[.int .i64 0, .slice none 0 0, .int .i64 0, .int .i64 0, .int .i64 0, .int .i64 0]) (t := 27) ?hr ?_; (case hd => rfl); (case hg => rfl); (case hr => first | (go_simp; done) | (go_simp; rfl)); intro gb149 hg w3 hbox hb; have n0_ := A_ (Kd.V_below (Kd.V_elderB (by (with_reducible repeat (first | apply vA_ | apply vN_ | apply vD_)); exact HO0_1.out) gb149 (Nat.le_of_eq hg.symm)) hb); have n1_ := A_ (blk_below (g := gb148) (o := .cells #[.int .i64 a0_0, .slice A0_1 l0_1.length c0_1, .int .i64 a0_2, .int .i64 a0_3, .int .i64 a0_4, .int .i64 a0_5] 28 (0, 0)) (by (with_reducible repeat (first | refine bN_ ?_ _ | refine bD_ ?_ | refine bA_ ?_ _)); exact BK148.out) hb); have n2_ := A_ (below_step (by repeat (first | (with_reducible first | exact HB.out | apply pA_ | apply pN_ | apply pD_ | refine bs_ ?_ GE148.out) | exact HB.out)) hb); have n3_ := A_ (hbox); have n4_ := A_ ((by rw [hg]; exact (below_size (by repeat (first | (with_reducible first | exact HB.out | apply pA_ | apply pN_ | apply pD_ | refine bs_ ?_ GE148.out) | exact HB.out))) : w.heap.size ≤ gb149)); have n5_ := A_ ((by rw [hg]; exact (below_size (by repeat (first | (with_reducible first | exact HB.out | apply pA_ | apply pN_ | apply pD_ | refine bs_ ?_ GE148.out) | exact HB.out))) : w.heap.size ≤ gb149)); have n6_ := A_ ((by rw [hg]; exact Nat.ne_of_lt (blk_lt (g := gb148) (o := .cells #[.int .i64 a0_0, .slice A0_1 l0_1.length c0_1, .int .i64 a0_2, .int .i64 a0_3, .int .i64 a0_4, .int .i64 a0_5] 28 (0, 0)) (by (with_reducible repeat (first | refine bN_ ?_ _ | refine bD_ ?_ | refine bA_ ?_ _)); exact BK148.out)) : gb148 ≠ gb149)); have n7_ := A_ ((by rw [hg]; exact Nat.ne_of_gt (blk_lt (g := gb148) (o := .cells #[.int .i64 a0_0, .slice A0_1 l0_1.length c0_1, .int .i64 a0_2, .int .i64 a0_3, .int .i64 a0_4, .int .i64 a0_5] 28 (0, 0)) (by (with_reducible repeat (first | refine bN_ ?_ _ | refine bD_ ?_ | refine bA_ ?_ _)); exact BK148.out)) : gb149 ≠ gb148)); clear HO0_1; clear BK148; clear HB; have HO0_1 := n0_; have BK148 := n1_; have HB := n2_; have BK149 := n3_; have GW149 := n4_; have GE149 := n5_; have NB148_149 := n6_; have NB149_148 := n7_; clear n0_ n1_ n2_ n3_ n4_ n5_ n6_ n7_; clear hb hbox hg; have hnb4 := NB148_149.out; have hnc4 := NB149_148.out; have hcz5_0 : w3.cell? ⟨gb148, 0, none⟩ = some (.int .i64 a0_0) := (bc_ BK148.out 0).trans rfl; have hcz5_1 : w3.cell? ⟨gb148, 1, none⟩ = some (.slice A0_1 l0_1.length c0_1) := (bc_ BK148.out 1).trans rfl; have hcz5_2 : w3.cell? ⟨gb148, 2, none⟩ = some (.int .i64 a0_2) := (bc_ BK148.out 2).trans rfl; have hcz5_3 : w3.cell? ⟨gb148, 3, none⟩ = some (.int .i64 a0_3) := (bc_ BK148.out 3).trans rfl; have hcz5_4 : w3.cell? ⟨gb148, 4, none⟩ = some (.int .i64 a0_4) := (bc_ BK148.out 4).trans rfl; have hcz5_5 : w3.cell? ⟨gb148, 5, none⟩ = some (.int .i64 a0_5) := (bc_ BK148.out 5).trans rfl; have hfz5_0 := blk_frozen BK148.out 0; have hfz5_1 := blk_frozen BK148.out 1; have hfz5_2 := blk_frozen BK148.out 2; have hfz5_3 := blk_frozen BK148.out 3; have hfz5_4 := blk_frozen BK148.out 4; have hfz5_5 := blk_frozen BK148.out 5; have hcz6_0 : w3.cell? ⟨gb149, 0, none⟩ = some (.int .i64 0) := (bc_ BK149.out 0).trans rfl; have hcz6_1 : w3.cell? ⟨gb149, 1, none⟩ = some (.slice none 0 0) := (bc_ BK149.out 1).trans rfl; have hcz6_2 : w3.cell? ⟨gb149, 2, none⟩ = some (.int .i64 0) := (bc_ BK149.out 2).trans rfl; have hcz6_3 : w3.cell? ⟨gb149, 3, none⟩ = some (.int .i64 0) := (bc_ BK149.out 3).trans rfl; have hcz6_4 : w3.cell? ⟨gb149, 4, none⟩ = some (.int .i64 0) := (bc_ BK149.out 4).trans rfl; have hcz6_5 : w3.cell? ⟨gb149, 5, none⟩ = some (.int .i64 0) := (bc_ BK149.out 5).trans rfl; have hfz6_0 := blk_frozen BK149.out 0; have hfz6_1 := blk_frozen BK149.out 1; have hfz6_2 := blk_frozen BK149.out 2; have hfz6_3 := blk_frozen BK149.out 3; have hfz6_4 := blk_frozen BK149.out 4; have hfz6_5 := blk_frozen BK149.out 5))
  refine bodyPost_ret (results_cell_row rfl _ _ gb149 27 #[.int .i64 a0_0, .slice A0_1 l0_1.length c0_1, .int .i64 a0_2, .int .i64 a0_3, .int .i64 a0_4, .int .i64 a0_5] (0, 0) _ rfl (by (with_reducible repeat (first | refine bN_ ?_ _ | refine bD_ ?_ | refine bA_ ?_ _)); refine blk_put (cs := #[.int .i64 a0_0, .slice A0_1 l0_1.length c0_1, .int .i64 a0_2, .int .i64 a0_3, .int .i64 a0_4, .int .i64 0]) ?_ 5 _ rfl; (with_reducible repeat (first | refine bN_ ?_ _ | refine bD_ ?_ | refine bA_ ?_ _)); refine blk_put (cs := #[.int .i64 a0_0, .slice A0_1 l0_1.length c0_1, .int .i64 a0_2, .int .i64 a0_3, .int .i64 0, .int .i64 0]) ?_ 4 _ rfl; (with_reducible repeat (first | refine bN_ ?_ _ | refine bD_ ?_ | refine bA_ ?_ _)); refine blk_put (cs := #[.int .i64 a0_0, .slice A0_1 l0_1.length c0_1, .int .i64 a0_2, .int .i64 0, .int .i64 0, .int .i64 0]) ?_ 3 _ rfl; (with_reducible repeat (first | refine bN_ ?_ _ | refine bD_ ?_ | refine bA_ ?_ _)); refine blk_put (cs := #[.int .i64 a0_0, .slice A0_1 l0_1.length c0_1, .int .i64 0, .int .i64 0, .int .i64 0, .int .i64 0]) ?_ 2 _ rfl; (with_reducible repeat (first | refine bN_ ?_ _ | refine bD_ ?_ | refine bA_ ?_ _)); refine blk_put (cs := #[.int .i64 a0_0, .slice none 0 0, .int .i64 0, .int .i64 0, .int .i64 0, .int .i64 0]) ?_ 1 _ rfl; (with_reducible repeat (first | refine bN_ ?_ _ | refine bD_ ?_ | refine bA_ ?_ _)); refine blk_put (cs := #[.int .i64 0, .slice none 0 0, .int .i64 0, .int .i64 0, .int .i64 0, .int .i64 0]) ?_ 0 _ rfl; (with_reducible repeat (first | refine bN_ ?_ _ | refine bD_ ?_ | refine bA_ ?_ _)); exact BK149.out) Try.underlying27 rfl (by kernel_rfl)) rfl ?_
  exact ⟨_, by first | rfl | (simp [errW_none, errW_some] <;> rfl) | (simp [*, errW_none, errW_some] <;> rfl), by (with_reducible repeat (first | apply vA_ | apply vN_ | apply vD_)); exact Kd.V_mono (Kd.V_far (p := ⟨gb149, 5, none⟩) (Kd.V_far (p := ⟨gb149, 4, none⟩) (Kd.V_far (p := ⟨gb149, 3, none⟩) (Kd.V_far (p := ⟨gb149, 2, none⟩) (Kd.V_far (p := ⟨gb149, 1, none⟩) (Kd.V_far (p := ⟨gb149, 0, none⟩) (Kd.V_mono HO0_1.out (fun k_ hk => (⟨hk, hk.2⟩ : _ ∧ k_ ≠ gb149))) (fun _ hk => hk.2) (.int .i64 a0_0)) (fun _ hk => hk.2) (.slice A0_1 l0_1.length c0_1)) (fun _ hk => hk.2) (.int .i64 a0_2)) (fun _ hk => hk.2) (.int .i64 a0_3)) (fun _ hk => hk.2) (.int .i64 a0_4)) (fun _ hk => hk.2) (.int .i64 a0_5)) (fun _ hk => hk.1.1.1), by repeat (first | (with_reducible first | exact HB.out | apply pA_ | apply pN_ | apply pD_ | refine bs_ ?_ GE148.out | refine bs_ ?_ GE149.out) | exact HB.out)⟩

/-! ### hawserref01_Lend: function 14 -/
open Go.Proofs.Ytkkmceejfmjidaa.Blocks
def lendMarks (n : Nat) : List Int := (List.range (n + 9)).map fun i : Nat => ((201 + (i : Int)) % 256)
def lendAt (n k : Nat) : List Int := (lendMarks n).take k ++ List.replicate (n + 9 - k) 0
theorem lendMarks_len (n : Nat) : (lendMarks n).length = n + 9 := by simp [lendMarks]
theorem lendAt_len (n k : Nat) (h : k ≤ n + 9) : (lendAt n k).length = n + 9 := by simp [lendAt, lendMarks]; omega
theorem lendAt_zero (n : Nat) : lendAt n 0 = List.replicate (n + 9) 0 := by simp [lendAt]
theorem lendAt_full (n : Nat) : lendAt n (n + 9) = lendMarks n := by
  have : (lendMarks n).take (n + 9) = lendMarks n := List.take_of_length_le (by rw [lendMarks_len]; omega)
  simp [lendAt, this]
theorem lendAt_set (n k : Nat) (h : k < n + 9) : (lendAt n k).set k ((201 + (k : Int)) % 256) = lendAt n (k + 1) := by
  have hm : (lendMarks n).take (k + 1) = (lendMarks n).take k ++ [(201 + (k : Int)) % 256] := by
    rw [List.take_succ_eq_append_getElem (by rw [lendMarks_len]; omega)]
    congr 1
    simp [lendMarks]
  have hl : ((lendMarks n).take k).length = k := by rw [List.length_take, lendMarks_len]; omega
  unfold lendAt
  rw [hm, List.set_append_right _ _ (by omega), hl, Nat.sub_self, show n + 9 - k = (n + 9 - (k + 1)) + 1 from by omega, List.replicate_succ, List.set_cons_zero]
  simp

def hawserref01_Lend.f (l0 : List Int) : Option (List Int × List Int) := if l0.length ≤ 1099511627776 then some (l0 ++ (lendMarks l0.length).drop l0.length, l0) else none

theorem infoB : (Try.prog.info? 5).map (fun i => (i.zero, i.size, i.bytes)) = some (some (.int .u8 0), 1, 1) := by kernel_rfl
set_option maxHeartbeats 800000 in
theorem lend_walk (A0 : Option Addr) (c0 : Nat) (l0 : List Int) (w : World) (hr0 : Kd.C (Kd.int .u8) w A0 l0.length l0) (hc0 : l0.length ≤ c0) (hn : l0.length ≤ 1099511627776) :
    Calls Try.prog 14 #[.slice A0 l0.length c0] w fun e w' => ∃ c g, e = .returned (.tuple #[.slice (some ⟨g, 0, none⟩) (l0.length + 9) (l0.length + 9), .slice (some ⟨g, 0, none⟩) l0.length c]) ∧ l0.length ≤ c ∧ w.heap.size ≤ g ∧
      Hid (w'.heap[g]? = some (.cells (nums .u8 (l0 ++ (lendMarks l0.length).drop l0.length)).toArray 5 (0, 0))) ∧ Below w.heap.size w w' := by
  have HR0 := Aside0.mk hr0
  have HC0 := Aside0.mk hc0
  clear hr0 hc0
  have hmk : ∀ W : World, (Instr.makeSlice 30 (.int .i64 ((l0.length : Int) + 9)) (.int .i64 ((l0.length : Int) + 9))).run Try.prog W = .ok (.slice (some ⟨W.heap.size, 0, none⟩) (l0.length + 9) (l0.length + 9)) (W.alloc (.cells (madeCells #[.int .u8 0] (l0.length + 9)) 5)) := by
    intro W
    exact print_make 30 5 .u8 1 Try.underlying30 infoB (by decide) (l0.length + 9) (by omega) W
  go_enter Try.func14, Try.ntmps14
  go_wp2
  go_loopw [12] (fun v wr => ∃ k : Nat, k ≤ l0.length + 9 ∧ v = .int .i64 k ∧ Hid (wr.heap[w.heap.size]? = some (.cells (nums .u8 (lendAt l0.length k)).toArray 5 (0, 0))) ∧ Below w.heap.size w wr) (fun v _ => l0.length + 9 - (intOf v).toNat)
  case atStart =>
    refine ⟨0, by omega, rfl, ?_, (Below.refl _ _).alloc (Nat.le_refl _) _⟩
    show (w.alloc _).heap[w.heap.size]? = _
    rw [heap_alloc_new, lendAt_zero, madeCells_nums]
  case round =>
    obtain ⟨k, hk, rfl, hh, hb⟩ := hrel
    clear hmk
    by_cases hlt : k < l0.length + 9
    · have hc : wr.cell? ⟨w.heap.size, k, none⟩ = some (.int .u8 ((lendAt l0.length k).getD k 0)) := by
        rw [blk_cell hh.out]
        have : k < (lendAt l0.length k).length := by rw [lendAt_len _ _ hk]; exact hlt
        simp [nums, List.getElem?_eq_getElem this, List.getD_eq_getElem?_getD]
      have hf := blk_frozen hh.out k
      have hb1 : (k : Int) < (l0.length : Int) + 9 := by omega
      go_wp2
      go_roundw
      case rel =>
        refine ⟨k + 1, by omega, by go_num, ?_, hb.setCell (Nat.le_refl _) _⟩
        have := blk_set hh.out k (.int .u8 ((201 + (k : Int)) % 256))
        rw [nums_set, lendAt_set _ _ hlt] at this
        exact this
      case measure => simp [intOf]; omega
    · have : k = l0.length + 9 := by omega
      subst this
      rw [lendAt_full] at hh
      have hszB : (Try.prog.info? 5).map (·.size) = some 1 := by kernel_rfl
      have HA : Hid (0 < (nums .u8 l0).length → (some ⟨w.heap.size, 0, none⟩ : Option Addr) = some ⟨w.heap.size, 0, none⟩ ∧ ∃ ad, A0 = some ad ∧ ∀ j v, (nums .u8 l0)[j]? = some v → wr.cell? (ad.add j) = some v) :=
        fun hp => ⟨rfl, cells_of_C (Kd.C_below HR0.out hb) (by rwa [nums_length] at hp)⟩
      go_wp2_with ((with_reducible refine wpList_copy_splice rfl (.tmp 22) (.tmp 23) 30 30 rfl 5 Try.underlying30 hszB (some ⟨w.heap.size, 0, none⟩) A0 (l0.length + 9) (l0.length + 9) l0.length c0 rfl rfl w.heap.size 0 (nums .u8 (lendMarks l0.length)) 5 hh.out (nums .u8 l0) ?c1 HA.out ?c2 ?c3 w.heap.size w hb (Nat.le_refl _) ?_); (case c1 => rw [nums_length]; exact min_self_add _ _); (case c2 => rw [nums_length, nums_length, lendMarks_len]; omega); (case c3 => exact nums_one _ _); intro w1 hg1 hb1)
      have hz : splice (nums .u8 (lendMarks l0.length)) 0 (nums .u8 l0) = nums .u8 (l0 ++ (lendMarks l0.length).drop l0.length) := by
        simp [splice, nums]
      rw [hz] at hg1
      go_quiet (fail)
      go_wp2
      go_ret2
      exact ⟨l0.length + 9, w.heap.size, rfl, by omega, Nat.le_refl _, hg1, pw_below_drewN hb1 _⟩
theorem hawserref01_Lend.calls (A0 : Option Addr) (c0 : Nat) (l0 : List Int) (r1 : List Int) (r2 : List Int) (w : World) (hr0 : Kd.C (Kd.int .u8) w A0 l0.length l0) (hc0 : l0.length ≤ c0) (h : hawserref01_Lend.f l0 = some (r1, r2)) :
    Calls Try.prog 14 #[.slice A0 l0.length c0] w fun e w' => ∃ v0_ v1_ : Value, e = .returned (.tuple #[v0_, v1_]) ∧ Kd.V (Kd.int .u8) 5 w' w.heap.size (fun k_ => (w.heap.size ≤ k_)) v0_ r1 ∧ Kd.V (Kd.int .u8) 5 w' w.heap.size (fun k_ => (w.heap.size ≤ k_)) v1_ r2 ∧ Below w.heap.size w w' := by
  unfold hawserref01_Lend.f at h
  split at h
  · rename_i hn
    obtain ⟨rfl, rfl⟩ : l0 ++ (lendMarks l0.length).drop l0.length = r1 ∧ l0 = r2 := by
      have := Option.some.inj h; exact ⟨congrArg Prod.fst this, congrArg Prod.snd this⟩
    refine (lend_walk A0 c0 l0 w hr0 hc0 hn).mono ?_
    rintro e w' ⟨c, g, rfl, hc, hg, hh, hb⟩
    have hL : (l0 ++ (lendMarks l0.length).drop l0.length).length = l0.length + 9 := by rw [List.length_append, List.length_drop, lendMarks_len]; omega
    refine ⟨_, _, rfl, ?_, ?_, hb⟩
    · have := V_of_blk (n := l0.length + 9) (c := l0.length + 9) (base := w.heap.size) (ok := fun k_ => w.heap.size ≤ k_) hh.out (o := 0) (by omega) (by omega) (Nat.le_refl _) hg
      rwa [List.drop_zero, List.take_of_length_le (by omega)] at this
    · have := V_of_blk (n := l0.length) (c := c) (base := w.heap.size) (ok := fun k_ => w.heap.size ≤ k_) hh.out (o := 0) (by omega) (by omega) hc hg
      rwa [List.drop_zero, List.take_append_of_le_length (Nat.le_refl _), List.take_length] at this
  · cases h

-- NOT PRINTED: function 31 (pack_NewReader)

/-! ### leb_All: function 48 -/
open Go.Proofs.Ytkkmceejfmjidaa.Blocks Go.Shelf
/-- The numbers that stand behind one another from a place on, each with its place: none if Decode has no answer. -/
def leb_told (k : Nat) : Nat → List Int → Nat → Option (List (Int × Int))
  | 0, _, _ => none
  | m + 1, l, at_ => if at_ < l.length then (leb_Decode.f k (l.drop at_)).bind fun t => (if t.2.2 = 0 then (if 0 < t.2.1 ∧ (at_ : Int) + t.2.1 ≤ l.length then (leb_told k m l (at_ + t.2.1.toNat)).map fun r => ((at_ : Int), t.1) :: r else none) else some []) else some []
theorem leb_told_mono (k : Nat) : ∀ (m : Nat) (l : List Int) (at_ : Nat), LeO (leb_told k m l at_) (leb_told (k + 1) m l at_)
  | 0, _, _ => LeO.none _
  | m + 1, l, at_ => by
    unfold leb_told
    refine LeO.ite (LeO.bind (leb_Decode.mono _ _) fun t => LeO.ite (LeO.ite ?_ (LeO.refl _)) (LeO.refl _)) (LeO.refl _)
    intro r hr
    obtain ⟨r', hr', rfl⟩ := Option.map_eq_some_iff.1 hr
    rw [leb_told_mono k m l _ _ hr']
    rfl
/-- What a round of the loop must leave as it was: the blocks of a set. -/
def leb_Keep (S : Nat → Prop) (N : Nat) (W W' : World) : Prop := ∀ k, S k → k < N → W'.heap[k]? = W.heap[k]?
theorem leb_Keep.t {S : Nat → Prop} {N : Nat} {A B C : World} (h : leb_Keep S N A B) (k : leb_Keep S N B C) : leb_Keep S N A C := fun i hi hn => (k i hi hn).trans (h i hi hn)
theorem leb_Keep.b {S : Nat → Prop} {N : Nat} {w : World} (hN : N ≤ w.heap.size) (W : World) (l : Nat) (o o' : Obj) (hl : w.heap.size ≤ l) (_ : W.heap[l]? = some o) (_ : o.isCells = false) (_ : o.isWalk = false) : leb_Keep S N W (W.putObj l o') :=
  fun k _ hk => World.putObj_heap_other (by omega)
theorem leb_Keep.below {S : Nat → Prop} {N : Nat} {A B : World} (h : Below N A B) : leb_Keep S N A B := fun k _ hk => h.block k hk
abbrev leb_encs {α : Type} (val : α → Int × Int) (x : α) : Array Value := #[.int .i64 (val x).1, .int .u64 (val x).2]

def leb_AllPost {α : Type} (xs : List α) (J Jx : List α → World → Prop) (e : Ending) (W' : World) : Prop := (∃ v, e = .returned v) ∧ ((∃ ys, ys = xs ∧ J ys W') ∨ ∃ pre, pre <+: xs ∧ Jx pre W')

attribute [local go_sem] Oper.semAt_some
set_option maxRecDepth 100000 in
set_option maxHeartbeats 4000000 in
theorem leb_All1_stops {α : Type} (val : α → Int × Int) (n : Nat) (hn : 1 ≤ n) (k m : Nat) (B base : Nat) (ok : Nat → Prop) (v : Value) (l : List Int) (hl : l.length ≤ 1099511627776) (xs : List α) (w : World) (hB : Boxed w B 30 v) (hV : Kd.V (Kd.int .u8) 5 w base ok v l) (h : leb_told k m l 0 = some (xs.map val)) :
    SeqStopsK Fence.wide n Try.prog 61 #[.pointer (some ⟨B, 0, none⟩)] (leb_encs val) (leb_Keep (fun k => k = B ∨ ok k) w.heap.size) (fun ys => ys = xs) (fun pre => pre <+: xs) xs.length w := fun ll J Jx W hW hJ hJx hY h0 => by
  obtain ⟨Av, cv, rfl⟩ := Kd.V_slice hV
  refine CallsIn.mono (R := leb_AllPost xs J Jx) ?_ (fun e W' h => h)
  refine callsIn_of_wp Try.func61 rfl trivial ?_ rfl
  simp only [Try.ntmps61, List.size_toArray, List.length_cons, List.length_nil, Nat.reduceAdd, Nat.reduceSub, Array.replicate_succ, Array.replicate_zero, List.push_toArray, List.append_toArray, List.nil_append, List.cons_append]
  have HV := Aside0.mk hV
  have HBX := Aside0.mk hB
  have HT := Aside0.mk h
  have HW := Aside0.mk hW
  have HYY := Aside0.mk hY
  have HL := Aside0.mk hl
  have HB := Aside0.mk (leb_Keep.below (S := fun k => k = B ∨ ok k) hW)
  have HJ0 := Aside0.mk h0
  have HJA := Aside0.mk hJ
  clear hV hB h hW hJ hJx hY h0 hl
  gi_wp2
  gi_loopw [3] (fun i wr => ∃ (at_ mm : Nat) (pre rest : List α), i = .int .i64 at_ ∧ Aside0 (at_ ≤ l.length) ∧ Aside0 (leb_told k mm l at_ = some (rest.map val)) ∧ Aside0 (xs = pre ++ rest) ∧ Aside0 (J pre wr) ∧ Aside0 (leb_Keep (fun k => k = B ∨ ok k) w.heap.size w wr))
    (fun i _ => l.length - (intOf i).toNat)
  case atStart => exact ⟨0, m, [], xs, rfl, ⟨Nat.zero_le _⟩, HT, ⟨rfl⟩, HJ0, HB⟩
  case round =>
    clear HJ0 HB HT
    obtain ⟨at_, mm, pre, rest, rfl, HAT, HT, HX, HJ, HB⟩ := hrel
    have hbx : wr.cell? ⟨B, 0, none⟩ = some (.slice Av l.length cv) := Boxed.cell (t := 30) ((HB.out B (.inl rfl) HBX.out.lt).trans HBX.out)
    have HV2 := Aside0.mk (Kd.V_step HV.out (w1 := wr) (fun k hk hlt => HB.out k (.inr hk) hlt))
    obtain ⟨_, hcv, hC⟩ := Kd.V_reads' HV2.out
    have HC := Aside0.mk hC
    have HCV := Aside0.mk hcv
    clear hC hcv
    cases mm with
    | zero => exact absurd HT.out (by simp [leb_told])
    | succ mm =>
      have H := HT.out
      clear HT
      simp only [leb_told] at H
      by_cases c1 : at_ < l.length
      · rw [if_pos c1] at H
        obtain ⟨⟨t1, t2, t3⟩, A1, H⟩ := Option.bind_eq_some_iff.mp H
        replace H : (if t3 = 0 then (if 0 < t2 ∧ (at_ : Int) + t2 ≤ l.length then (leb_told k mm l (at_ + t2.toNat)).map fun r => ((at_ : Int), t1) :: r else none) else some []) = some (rest.map val) := H
        obtain ⟨i07, hi07, _, hsz7, _⟩ := info_parts (show (Try.prog.info? 5).map (fun i => (i.zero, i.size, i.bytes)) = some (some (.int .u8 0), 1, 1) by kernel_rfl)
        obtain ⟨A7, hcut7, hA7, hC7⟩ := print_drop_of (P := Try.prog) (Value.int .u8) 0 30 5 .i64 Try.underlying30 hi07 hsz7 Av cv l (at_ : Int) (by omega) (by omega) HCV.out
        have HR := Aside0.mk (Kd.C_of_reads (h1 := fun _ => rfl) (hA7 _ (Kd.reads_of_C HC.out)))
        have AD := Aside0.mk A1
        rw [Int.toNat_natCast] at hC7
        have HR := Aside0.mk (show Kd.C (Kd.int .u8) wr A7 (l.drop at_).length (l.drop at_) from HR.out)
        have HC7 := Aside0.mk hC7
        clear hA7 hC7 hi07 hsz7 A1
        by_cases c5 : t3 = 0
        · rw [if_pos c5] at H
          have c5b0 : (t3 == 0) = true := beq_iff_eq.mpr c5
          have c5b1 : (t3 != 0) = false := bne_eq_false_iff_eq.mpr c5
          clear c5
          by_cases c6 : 0 < t2 ∧ (at_ : Int) + t2 ≤ l.length
          · rw [if_pos c6] at H
            obtain ⟨r0, hr0, hr1⟩ := Option.map_eq_some_iff.1 H
            obtain ⟨x, rest', rfl, hx1, rfl⟩ : ∃ x rest', rest = x :: rest' ∧ val x = ((at_ : Int), t1) ∧ rest'.map val = r0 := by
              cases rest with
              | nil => cases hr1
              | cons x r => injection hr1 with h1 h2; exact ⟨x, r, rfl, h1.symm, h2.symm⟩
            have HT2 := Aside0.mk hr0
            have HX1 := Aside0.mk hx1
            have HC6 := Aside0.mk c6
            have hw : wrap64 ((at_ : Int) + t2) = (at_ : Int) + t2 := by unfold wrap64; have := HL.out; omega
            clear hr0 hr1 hx1 H c6
            have c1b : decide ((at_ : Int) < (l.length : Int)) = true := decide_eq_true (by omega)
            gi_wp2_with (first | (refine ⟨trivial, ?_⟩; gi_at_call 62; (try rw [← List.length_drop]); (with_reducible refine (callsIn_wide.2 (leb_Decode.calls k _ _ (l.drop at_) t1 t2 t3 _ HR.out HC7.out AD.out)).mono ?_); rintro e w' ⟨rfl, ⟨nd, rfl⟩⟩; have HJD := Aside0.mk (HJA.out pre wr (wr.drewN nd) none HJ.out ⟨by first | rfl | simp, by first | rfl | simp, by first | rfl | simp, by simp, fun k _ _ => by simp⟩ (fun r e => by cases e)); obtain ⟨fn, tmps, assign, body, hy, hR⟩ := HYY.out pre x (wr.drewN nd) HJD.out (by rw [HX.out, List.length_append, List.length_cons]; omega); dsimp only [leb_encs] at hy; rw [HX1.out] at hy; dsimp only at hy; have HRR := Aside0.mk hR; have HBD := Aside0.mk (show leb_Keep (fun k => k = B ∨ ok k) w.heap.size w (wr.drewN nd) from HB.out.t (fun k _ _ => by simp)); clear hR))
            refine HRR.out.mono ?_
            rintro e W3 (⟨rfl, hJ3, hk3⟩ | ⟨rfl, hJx3⟩)
            · gi_wp2
              go_roundw
              case rel => exact ⟨at_ + t2.toNat, mm, pre ++ [x], rest', by have := HC6.out; rw [hw, show ((at_ + t2.toNat : Nat) : Int) = (at_ : Int) + t2 by omega], ⟨by have := HC6.out; omega⟩, HT2, ⟨by rw [HX.out, List.append_assoc]; rfl⟩, ⟨hJ3⟩, ⟨HBD.out.t hk3⟩⟩
              case measure => have := HC6.out; simp [intOf]; omega
            · gi_wp2
              refine bodyPost_ret (results_none rfl _ _ _) rfl ?_
              exact ⟨⟨_, rfl⟩, .inr ⟨pre ++ [x], ⟨rest', by rw [HX.out, List.append_assoc]; rfl⟩, hJx3⟩⟩
          · rw [if_neg c6] at H
            exact absurd H (by simp)
        · rw [if_neg c5] at H
          have c5b0 : (t3 == 0) = false := beq_eq_false_iff_ne.mpr c5
          have c5b1 : (t3 != 0) = true := bne_iff_ne.mpr c5
          obtain rfl : rest = [] := List.map_eq_nil_iff.1 (Option.some.inj H).symm
          clear c5 H
          have c1b : decide ((at_ : Int) < (l.length : Int)) = true := decide_eq_true (by omega)
          gi_wp2_with (first | (refine ⟨trivial, ?_⟩; gi_at_call 62; (try rw [← List.length_drop]); (with_reducible refine (callsIn_wide.2 (leb_Decode.calls k _ _ (l.drop at_) t1 t2 t3 _ HR.out HC7.out AD.out)).mono ?_); rintro e w' ⟨rfl, ⟨nd, rfl⟩⟩))
          refine ⟨fun _ h => (by cases h), ?_⟩
          gi_wp2
          refine bodyPost_ret (results_none rfl _ _ _) rfl ?_
          exact ⟨⟨_, rfl⟩, .inl ⟨_, by rw [HX.out, List.append_nil], HJA.out pre wr (wr.drewN nd) none HJ.out ⟨by first | rfl | simp, by first | rfl | simp, by first | rfl | simp, by simp, fun k _ _ => by simp⟩ (fun r e => by cases e)⟩⟩
      · rw [if_neg c1] at H
        obtain rfl : rest = [] := List.map_eq_nil_iff.1 (Option.some.inj H).symm
        clear H
        have c1b : decide ((at_ : Int) < (l.length : Int)) = false := decide_eq_false (by omega)
        gi_wp2
        go_end0
        exact ⟨⟨_, rfl⟩, .inl ⟨_, by rw [HX.out, List.append_nil], HJ.out⟩⟩
set_option maxHeartbeats 1600000 in
theorem leb_All_calls (A0 : Option Addr) (c0 : Nat) (l0 : List Int) (w : World) (hr0 : Kd.C (Kd.int .u8) w A0 l0.length l0) (hc0 : l0.length ≤ c0) (hn : l0.length ≤ 1099511627776) :
    Calls Try.prog 48 #[.slice A0 l0.length c0] w fun e w' => ∃ (B : Nat) (v : Value), e = .returned (.func (.func 61) #[] #[.pointer (some ⟨B, 0, none⟩)]) ∧ w.heap.size ≤ B ∧ Boxed w' B 30 v ∧ Kd.V (Kd.int .u8) 5 w' w.heap.size (fun k => w.heap.size ≤ k ∧ k ≠ B) v l0 ∧ Below w.heap.size w w' := by
  have HR0 := Aside0.mk hr0
  have HC0 := Aside0.mk hc0
  have HN := Aside0.mk hn
  clear hr0 hc0 hn
  have hi5 : (Try.prog.info? 5).map (fun i => (i.zero, i.size, i.bytes)) = some (some (.int .u8 0), 1, 1) := by kernel_rfl
  go_enter Try.func48, Try.ntmps48
  go_wp2_with ((with_reducible refine gate_dst (N := 5) rfl ?_); refine Kd.R_append_rows (Kd.int .u8) (w0 := w) w.heap.size rfl (.const (.slice none 0 0)) (.tmp 4) 30 5 (.int .u8 0) 1 rfl Try.underlying30 hi5 rfl (by decide) (by omega) (.slice none 0 0) [] l0 _ _ _ (fun _ => True) (fun _ => False) rfl rfl ?aO ?aR (fun _ _ h => h) (fun _ hk => hk.elim) (fun _ _ => trivial) ?aB ?aS ?aL ?_; (case aO => exact Kd.R_nil _ _ _ _ _); (case aR => exact HR0.out); (case aB => exact Below.refl _ _); (case aS => exact Nat.le_refl _); (case aL => have := HN.out; show (0 + l0.length) * 1 ≤ 140737488355328; omega); intro v1 w1 ho1 hb1 hg1 hat1; have n0 := Aside0.mk (show Kd.R (Kd.int .u8) 5 w1 w.heap.size (fun _ => True) v1 l0 from ho1); have n1 := Aside0.mk hb1; clear ho1 hb1 hg1 hat1; obtain ⟨Ao, co, eo⟩ := Kd.R_slice n0.out; subst eo)
  go_ret
  refine ⟨w1.heap.size, .slice Ao l0.length co, rfl, n1.out.size, Boxed.new _ _ _, ?_, n1.out.alloc n1.out.size _⟩
  refine Kd.V_alloc (Kd.V_mono (Kd.R_V (Kd.R_bound n0.out)) ?_) _
  intro k hk
  exact ⟨hk.2.1, by omega⟩

/-! ### leb_Size: function 49 -/
mutual
def leb_Size.l0 : Nat → Int → List Int → Int → Int → Option (Int)
  | 0, _, _, _, _ => none
  | k + 1, x3, x6, x7, x8 => if x8 < x7 then (if 0 ≤ x8 then (if x8 < (x6.length : Int) then (leb_Size.l1 k (wrap64 (x3 + 1)) (rd x6 x8) x6 x7 x8) else (none)) else (none)) else (some x3)
def leb_Size.l1 : Nat → Int → Int → List Int → Int → Int → Option (Int)
  | 0, _, _, _, _, _ => none
  | k + 1, x3, x5, x6, x7, x8 => if x5 > 127 then (leb_Size.l1 k (wrap64 (x3 + 1)) (x5 / 128) x6 x7 x8) else (leb_Size.l0 k x3 x6 x7 (wrap64 (x8 + 1)))
end
def leb_Size.f (k : Nat) (l0 : List Int) : Option (Int) := leb_Size.l0 k 0 l0 (l0.length : Int) 0
theorem leb_Size.mono_l : ∀ k, (∀ y0 y1 y2 y3, LeO (leb_Size.l0 k y0 y1 y2 y3) (leb_Size.l0 (k + 1) y0 y1 y2 y3)) ∧ (∀ y0 y1 y2 y3 y4, LeO (leb_Size.l1 k y0 y1 y2 y3 y4) (leb_Size.l1 (k + 1) y0 y1 y2 y3 y4))
  | 0 => ⟨fun _ _ _ _ r h => by simp [leb_Size.l0] at h, fun _ _ _ _ _ r h => by simp [leb_Size.l1] at h⟩
  | k + 1 => by
    obtain ⟨ih0, ih1⟩ := leb_Size.mono_l k
    refine ⟨?_, ?_⟩
    · intro y0 y1 y2 y3
      unfold leb_Size.l0
      repeat' first
      | (with_reducible exact ih0 _ _ _ _)
      | (with_reducible exact ih1 _ _ _ _ _)
      | (with_reducible exact LeO.refl _)
      | (with_reducible exact LeO.none _)
      | (with_reducible refine LeO.ite ?_ ?_)
      | (with_reducible refine LeO.bind ?_ (fun _ => ?_))
      | exact ih0 _ _ _ _
      | exact ih1 _ _ _ _ _
      | exact LeO.none _
      | refine LeO.ite ?_ ?_
      | refine LeO.bind ?_ (fun _ => ?_)
    · intro y0 y1 y2 y3 y4
      unfold leb_Size.l1
      repeat' first
      | (with_reducible exact ih0 _ _ _ _)
      | (with_reducible exact ih1 _ _ _ _ _)
      | (with_reducible exact LeO.refl _)
      | (with_reducible exact LeO.none _)
      | (with_reducible refine LeO.ite ?_ ?_)
      | (with_reducible refine LeO.bind ?_ (fun _ => ?_))
      | exact ih0 _ _ _ _
      | exact ih1 _ _ _ _ _
      | exact LeO.none _
      | refine LeO.ite ?_ ?_
      | refine LeO.bind ?_ (fun _ => ?_)
theorem leb_Size.mono : ∀ a0 k, LeO (leb_Size.f k a0) (leb_Size.f (k + 1) a0) := by
  intro a0 k
  obtain ⟨ih0, ih1⟩ := leb_Size.mono_l k
  unfold leb_Size.f
  repeat' first
      | (with_reducible exact ih0 _ _ _ _)
      | (with_reducible exact ih1 _ _ _ _ _)
      | (with_reducible exact LeO.refl _)
      | (with_reducible exact LeO.none _)
      | (with_reducible refine LeO.ite ?_ ?_)
      | (with_reducible refine LeO.bind ?_ (fun _ => ?_))
      | exact ih0 _ _ _ _
      | exact ih1 _ _ _ _ _
      | exact LeO.none _
      | refine LeO.ite ?_ ?_
      | refine LeO.bind ?_ (fun _ => ?_)
set_option maxHeartbeats 8000000 in
set_option maxRecDepth 100000 in
theorem leb_Size.calls (k : Nat) (A0 : Option Addr) (c0 : Nat) (l0 : List Int) (r : Int) (w : World) (hr0 : Kd.C (Kd.int .u64) w A0 l0.length l0) (hc0 : l0.length ≤ c0) (h : leb_Size.f k l0 = some r) :
    Calls Try.prog 49 #[.slice A0 l0.length c0] w fun e w' => e = .returned (.int .i64 r) ∧ Drawn0 w w' := by
  have HR0 := A_ hr0
  have HC0 := A_ hc0
  clear hr0 hc0
  have H : (leb_Size.l0 k 0 l0 (l0.length : Int) 0) = some r := h
  clear h
  have H' := A_ H
  clear H
  go_enter Try.func49, Try.ntmps49
  go_wp2
  go_loopg [3, 8] k (fun kq v3 v8 w' => ∃ (x3_1 : Int) (x8_1 : Int), v3 = .int .i64 x3_1 ∧ v8 = .int .i64 x8_1 ∧ Aside0 (leb_Size.l0 kq x3_1 l0 (l0.length : Int) x8_1 = some r) ∧ Aside0 (kq ≤ k) ∧ Drawn0 w w')
  case atStart => exact ⟨(0), (0), (by first | rfl | (simp; done) | (simp [*]; done)), (by first | rfl | (simp; done) | (simp [*]; done)), H', ⟨Nat.le_refl _⟩, by repeat (first | exact Drawn0.refl _ | apply Drawn0.step)⟩
  case round =>
    clear H'
    obtain ⟨x3_1, x8_1, rfl, rfl, HA, HK1, ⟨m1, rfl⟩⟩ := hrel
    cases gk with
    | zero => exact absurd HA.out (by simp [leb_Size.l0])
    | succ k1 =>
      have H := HA.out
      clear HA
      simp only [leb_Size.l0] at H
      by_cases c2 : x8_1 < (l0.length : Int)
      · rw [if_pos c2] at H
        have c2b0 : decide (x8_1 < (l0.length : Int)) = true := decide_eq_true c2
        clear c2
        by_cases c3 : 0 ≤ x8_1
        · rw [if_pos c3] at H
          have c3b0 : decide (0 ≤ x8_1) = true := decide_eq_true c3
          clear c3
          by_cases c4 : x8_1 < (l0.length : Int)
          · rw [if_pos c4] at H
            have c4b0 : decide (x8_1 < (l0.length : Int)) = true := decide_eq_true c4
            clear c4
            have H' := A_ H
            clear H
            have p154 : 0 ≤ (x8_1 : Int) := of_decide_eq_true (by first | (with_reducible assumption) | assumption)
            have q154 : x8_1 < (l0.length : Int) := of_decide_eq_true (by first | (with_reducible assumption) | assumption)
            obtain ⟨ad154, e154, hx154_0⟩ := Kd.at_int HR0.out x8_1 p154 q154
            cases e154
            replace p154 := eq_true p154
            replace q154 := eq_true q154
            go_wp2
            go_loopg [3, 5] k1 (fun kq v3 v5 w' => ∃ (x3_2 : Int) (x5_2 : Int), v3 = .int .i64 x3_2 ∧ v5 = .int .u64 x5_2 ∧ Aside0 (leb_Size.l1 kq x3_2 x5_2 l0 (l0.length : Int) x8_1 = some r) ∧ Aside0 (kq ≤ k1) ∧ Drawn0 w w')
            case atStart => exact ⟨(wrap64 (x3_1 + 1)), (rd l0 x8_1), (by first | rfl | (simp; done) | (simp [*]; done)), (by first | rfl | (simp; done) | (simp [*]; done)), H', ⟨Nat.le_refl _⟩, by repeat (first | exact Drawn0.refl _ | apply Drawn0.step)⟩
            case round =>
              clear H'
              try clear p1
              try clear q1
              try clear hx1
              try clear c2
              try clear c2b0
              try clear p2
              try clear c3
              try clear c3b0
              try clear c4
              try clear c4b0
              try clear hx154_0
              try clear p154
              try clear q154
              obtain ⟨x3_2, x5_2, rfl, rfl, HA, HK2, ⟨m2, rfl⟩⟩ := hrel
              cases gk with
              | zero => exact absurd HA.out (by simp [leb_Size.l1])
              | succ k2 =>
                have H := HA.out
                clear HA
                simp only [leb_Size.l1] at H
                by_cases c5 : x5_2 > 127
                · rw [if_pos c5] at H
                  have c5b0 : decide (127 < x5_2) = true := decide_eq_true c5
                  clear c5
                  have H' := A_ H
                  clear H
                  go_wp2
                  go_roundg k2
                  case measure => have := HK1.out; have := HK2.out; omega
                  case rel => exact ⟨(wrap64 (x3_2 + 1)), (x5_2 / 128), (by first | rfl | (simp; done) | (simp [*]; done)), (by first | rfl | (simp; done) | (simp [*]; done)), H', ⟨by have := HK1.out; have := HK2.out; omega⟩, by repeat (first | exact Drawn0.refl _ | apply Drawn0.step)⟩
                · rw [if_neg c5] at H
                  have c5b0 : decide (127 < x5_2) = false := decide_eq_false c5
                  clear c5
                  have H' := A_ H
                  clear H
                  go_wp2
                  go_roundg k2
                  case measure => have := HK1.out; have := HK2.out; omega
                  case rel => exact ⟨(x3_2), (wrap64 (x8_1 + 1)), (by first | rfl | (simp; done) | (simp [*]; done)), (by first | rfl | (simp; done) | (simp [*]; done)), H', ⟨by have := HK1.out; have := HK2.out; omega⟩, by repeat (first | exact Drawn0.refl _ | apply Drawn0.step)⟩
          · rw [if_neg c4] at H
            exact absurd H (by simp)
        · rw [if_neg c3] at H
          exact absurd H (by simp)
      · rw [if_neg c2] at H
        have c2b0 : decide (x8_1 < (l0.length : Int)) = false := decide_eq_false c2
        clear c2
        obtain rfl := Option.some.inj H
        go_wp2
        go_ret
        exact ⟨by first | rfl | (simp; done) | (simp [*]; done), by repeat (first | exact Drawn0.refl _ | apply Drawn0.step)⟩

/-! ### bytes_Equal: function 50 -/
def bytes_Equal.f (l0 : List Int) (l1 : List Int) : Option (Bool) := some ((strOfNums l0).toList == (strOfNums l1).toList)
set_option maxHeartbeats 8000000 in
set_option maxRecDepth 100000 in
theorem bytes_Equal.calls (A0 : Option Addr) (c0 : Nat) (l0 : List Int) (A1 : Option Addr) (c1 : Nat) (l1 : List Int) (r : Bool) (w : World) (hr0 : Kd.C (Kd.int .u8) w A0 l0.length l0) (hc0 : l0.length ≤ c0) (hr1 : Kd.C (Kd.int .u8) w A1 l1.length l1) (hc1 : l1.length ≤ c1) (h : bytes_Equal.f l0 l1 = some r) :
    Calls Try.prog 50 #[.slice A0 l0.length c0, .slice A1 l1.length c1] w fun e w' => e = .returned (.bool r) ∧ Drawn0 w w' := by
  have HR0 := A_ hr0
  have HC0 := A_ hc0
  clear hr0 hc0
  have HR1 := A_ hr1
  have HC1 := A_ hc1
  clear hr1 hc1
  have H : (some ((strOfNums l0).toList == (strOfNums l1).toList)) = some r := h
  clear h
  obtain rfl := Option.some.inj H
  have hcv3 := Kd.C_string (P := Try.prog) (A := A0) (c := c0) Try.underlying30 Try.underlying5 Try.underlying9 HR0.out
  have hcv4 := Kd.C_string (P := Try.prog) (A := A1) (c := c1) Try.underlying30 Try.underlying5 Try.underlying9 HR1.out
  go_enter Try.func50, Try.ntmps50
  go_wp2
  go_ret
  exact ⟨by first | rfl | (simp; done) | (simp [*]; done), by repeat (first | exact Drawn0.refl _ | apply Drawn0.step)⟩

end Go.Proofs.Ytkkmceejfmjidaa.G
