-- Written for this claim by a program of this session (wip/xprint.py), by means of the kit's print. Not trusted: Lean checks it.
import Derived.Test.YtjhijklgpgdlaaaGx0
import Derived.Test.YtjhijklgpgdlaaaGx1
namespace Go.Proofs.Ytjhijklgpgdlaaa.G
open Go.RowKit Go.Proofs.YtjhijklgpgdlaaaW.PrintWords Go.Proofs.YtjhijklgpgdlaaaW.PrintLast Go.Proofs.YtjhijklgpgdlaaaW.PrintMore
attribute [local go_sem] max2_int min2_int max_two min_two max_three min_three max_four min_four   -- for this text's walks alone
set_option linter.unusedVariables false
set_option linter.unusedSimpArgs false

/-! ### leb_All: function 56 -/
open Go.Proofs.Ytjhijklgpgdlaaa.Blocks Go.Shelf
/-- The numbers that stand behind one another from a place on, each with its place: none if Decode has no answer. -/
def leb_told (k : Nat) : Nat → List Int → Nat → Option (List (Int × Int))
  | 0, _, _ => none
  | m + 1, l, at_ => if at_ < l.length then (leb_Decode.f k (l.drop at_)).bind fun t => (if t.2.2 = 0 then (if 0 < t.2.1 ∧ (at_ : Int) + t.2.1 ≤ l.length then (leb_told k m l (at_ + t.2.1.toNat)).map fun r => ((at_ : Int), t.1) :: r else none) else some []) else some []
theorem leb_told_mono (k : Nat) : ∀ (m : Nat) (l : List Int) (at_ : Nat), LeO (leb_told k m l at_) (leb_told (k + 1) m l at_)
  | 0, _, _ => LeO.none _
  | m + 1, l, at_ => by
    unfold leb_told
    refine LeO.ite (LeO.bind (leb_Decode.mono _ _) fun t => LeO.ite (LeO.ite ?_ (LeO.refl _)) (LeO.refl _)) (LeO.refl _)
    intro r hr
    obtain ⟨r', hr', rfl⟩ := Option.map_eq_some_iff.1 hr
    rw [leb_told_mono k m l _ _ hr']
    rfl
/-- What a round of the loop must leave as it was: the blocks of a set. -/
def leb_Keep (S : Nat → Prop) (N : Nat) (W W' : World) : Prop := ∀ k, S k → k < N → W'.heap[k]? = W.heap[k]?
theorem leb_Keep.t {S : Nat → Prop} {N : Nat} {A B C : World} (h : leb_Keep S N A B) (k : leb_Keep S N B C) : leb_Keep S N A C := fun i hi hn => (k i hi hn).trans (h i hi hn)
theorem leb_Keep.b {S : Nat → Prop} {N : Nat} {w : World} (hN : N ≤ w.heap.size) (W : World) (l : Nat) (o o' : Obj) (hl : w.heap.size ≤ l) (_ : W.heap[l]? = some o) (_ : o.isCells = false) (_ : o.isWalk = false) : leb_Keep S N W (W.putObj l o') :=
  fun k _ hk => World.putObj_heap_other (by omega)
theorem leb_Keep.below {S : Nat → Prop} {N : Nat} {A B : World} (h : Below N A B) : leb_Keep S N A B := fun k _ hk => h.block k hk
abbrev leb_encs {α : Type} (val : α → Int × Int) (x : α) : Array Value := #[.int .i64 (val x).1, .int .u64 (val x).2]

def leb_AllPost {α : Type} (xs : List α) (J Jx : List α → World → Prop) (e : Ending) (W' : World) : Prop := (∃ v, e = .returned v) ∧ ((∃ ys, ys = xs ∧ J ys W') ∨ ∃ pre, pre <+: xs ∧ Jx pre W')

attribute [local go_sem] Oper.semAt_some
set_option maxRecDepth 100000 in
set_option maxHeartbeats 4000000 in
theorem leb_All1_stops {α : Type} (val : α → Int × Int) (n : Nat) (hn : 1 ≤ n) (k m : Nat) (B base : Nat) (ok : Nat → Prop) (v : Value) (l : List Int) (hl : l.length ≤ 1099511627776) (xs : List α) (w : World) (hB : Boxed w B 44 v) (hV : Kd.V (Kd.int .u8) 5 w base ok v l) (h : leb_told k m l 0 = some (xs.map val)) :
    SeqStopsK Fence.wide n Try.prog 63 #[.pointer (some ⟨B, 0, none⟩)] (leb_encs val) (leb_Keep (fun k => k = B ∨ ok k) w.heap.size) (fun ys => ys = xs) (fun pre => pre <+: xs) xs.length w := fun ll J Jx W hW hJ hJx hY h0 => by
  obtain ⟨Av, cv, rfl⟩ := Kd.V_slice hV
  refine CallsIn.mono (R := leb_AllPost xs J Jx) ?_ (fun e W' h => h)
  refine callsIn_of_wp Try.func63 rfl trivial ?_ rfl
  simp only [Try.ntmps63, List.size_toArray, List.length_cons, List.length_nil, Nat.reduceAdd, Nat.reduceSub, Array.replicate_succ, Array.replicate_zero, List.push_toArray, List.append_toArray, List.nil_append, List.cons_append]
  have HV := Aside0.mk hV
  have HBX := Aside0.mk hB
  have HT := Aside0.mk h
  have HW := Aside0.mk hW
  have HYY := Aside0.mk hY
  have HL := Aside0.mk hl
  have HB := Aside0.mk (leb_Keep.below (S := fun k => k = B ∨ ok k) hW)
  have HJ0 := Aside0.mk h0
  have HJA := Aside0.mk hJ
  clear hV hB h hW hJ hJx hY h0 hl
  gi_wp2
  gi_loopw [3] (fun i wr => ∃ (at_ mm : Nat) (pre rest : List α), i = .int .i64 at_ ∧ Aside0 (at_ ≤ l.length) ∧ Aside0 (leb_told k mm l at_ = some (rest.map val)) ∧ Aside0 (xs = pre ++ rest) ∧ Aside0 (J pre wr) ∧ Aside0 (leb_Keep (fun k => k = B ∨ ok k) w.heap.size w wr))
    (fun i _ => l.length - (intOf i).toNat)
  case atStart => exact ⟨0, m, [], xs, rfl, ⟨Nat.zero_le _⟩, HT, ⟨rfl⟩, HJ0, HB⟩
  case round =>
    clear HJ0 HB HT
    obtain ⟨at_, mm, pre, rest, rfl, HAT, HT, HX, HJ, HB⟩ := hrel
    have hbx : wr.cell? ⟨B, 0, none⟩ = some (.slice Av l.length cv) := Boxed.cell (t := 44) ((HB.out B (.inl rfl) HBX.out.lt).trans HBX.out)
    have HV2 := Aside0.mk (Kd.V_step HV.out (w1 := wr) (fun k hk hlt => HB.out k (.inr hk) hlt))
    obtain ⟨_, hcv, hC⟩ := Kd.V_reads' HV2.out
    have HC := Aside0.mk hC
    have HCV := Aside0.mk hcv
    clear hC hcv
    cases mm with
    | zero => exact absurd HT.out (by simp [leb_told])
    | succ mm =>
      have H := HT.out
      clear HT
      simp only [leb_told] at H
      by_cases c1 : at_ < l.length
      · rw [if_pos c1] at H
        obtain ⟨⟨t1, t2, t3⟩, A1, H⟩ := Option.bind_eq_some_iff.mp H
        replace H : (if t3 = 0 then (if 0 < t2 ∧ (at_ : Int) + t2 ≤ l.length then (leb_told k mm l (at_ + t2.toNat)).map fun r => ((at_ : Int), t1) :: r else none) else some []) = some (rest.map val) := H
        obtain ⟨i07, hi07, _, hsz7, _⟩ := info_parts (show (Try.prog.info? 5).map (fun i => (i.zero, i.size, i.bytes)) = some (some (.int .u8 0), 1, 1) by kernel_rfl)
        obtain ⟨A7, hcut7, hA7, hC7⟩ := print_drop_of (P := Try.prog) (Value.int .u8) 0 44 5 .i64 Try.underlying44 hi07 hsz7 Av cv l (at_ : Int) (by omega) (by omega) HCV.out
        have HR := Aside0.mk (Kd.C_of_reads (h1 := fun _ => rfl) (hA7 _ (Kd.reads_of_C HC.out)))
        have AD := Aside0.mk A1
        rw [Int.toNat_natCast] at hC7
        have HR := Aside0.mk (show Kd.C (Kd.int .u8) wr A7 (l.drop at_).length (l.drop at_) from HR.out)
        have HC7 := Aside0.mk hC7
        clear hA7 hC7 hi07 hsz7 A1
        by_cases c5 : t3 = 0
        · rw [if_pos c5] at H
          have c5b0 : (t3 == 0) = true := beq_iff_eq.mpr c5
          have c5b1 : (t3 != 0) = false := bne_eq_false_iff_eq.mpr c5
          clear c5
          by_cases c6 : 0 < t2 ∧ (at_ : Int) + t2 ≤ l.length
          · rw [if_pos c6] at H
            obtain ⟨r0, hr0, hr1⟩ := Option.map_eq_some_iff.1 H
            obtain ⟨x, rest', rfl, hx1, rfl⟩ : ∃ x rest', rest = x :: rest' ∧ val x = ((at_ : Int), t1) ∧ rest'.map val = r0 := by
              cases rest with
              | nil => cases hr1
              | cons x r => injection hr1 with h1 h2; exact ⟨x, r, rfl, h1.symm, h2.symm⟩
            have HT2 := Aside0.mk hr0
            have HX1 := Aside0.mk hx1
            have HC6 := Aside0.mk c6
            have hw : wrap64 ((at_ : Int) + t2) = (at_ : Int) + t2 := by unfold wrap64; have := HL.out; omega
            clear hr0 hr1 hx1 H c6
            have c1b : decide ((at_ : Int) < (l.length : Int)) = true := decide_eq_true (by omega)
            gi_wp2_with (first | (refine ⟨trivial, ?_⟩; gi_at_call 64; (try rw [← List.length_drop]); (with_reducible refine (callsIn_wide.2 (leb_Decode.calls k _ _ (l.drop at_) t1 t2 t3 _ HR.out HC7.out AD.out)).mono ?_); rintro e w' ⟨rfl, ⟨nd, rfl⟩⟩; have HJD := Aside0.mk (HJA.out pre wr (wr.drewN nd) none HJ.out ⟨by first | rfl | simp, by first | rfl | simp, by first | rfl | simp, by simp, fun k _ _ => by simp⟩ (fun r e => by cases e)); obtain ⟨fn, tmps, assign, body, hy, hR⟩ := HYY.out pre x (wr.drewN nd) HJD.out (by rw [HX.out, List.length_append, List.length_cons]; omega); dsimp only [leb_encs] at hy; rw [HX1.out] at hy; dsimp only at hy; have HRR := Aside0.mk hR; have HBD := Aside0.mk (show leb_Keep (fun k => k = B ∨ ok k) w.heap.size w (wr.drewN nd) from HB.out.t (fun k _ _ => by simp)); clear hR))
            refine HRR.out.mono ?_
            rintro e W3 (⟨rfl, hJ3, hk3⟩ | ⟨rfl, hJx3⟩)
            · gi_wp2
              go_roundw
              case rel => exact ⟨at_ + t2.toNat, mm, pre ++ [x], rest', by have := HC6.out; rw [hw, show ((at_ + t2.toNat : Nat) : Int) = (at_ : Int) + t2 by omega], ⟨by have := HC6.out; omega⟩, HT2, ⟨by rw [HX.out, List.append_assoc]; rfl⟩, ⟨hJ3⟩, ⟨HBD.out.t hk3⟩⟩
              case measure => have := HC6.out; simp [intOf]; omega
            · gi_wp2
              refine bodyPost_ret (results_none rfl _ _ _) rfl ?_
              exact ⟨⟨_, rfl⟩, .inr ⟨pre ++ [x], ⟨rest', by rw [HX.out, List.append_assoc]; rfl⟩, hJx3⟩⟩
          · rw [if_neg c6] at H
            exact absurd H (by simp)
        · rw [if_neg c5] at H
          have c5b0 : (t3 == 0) = false := beq_eq_false_iff_ne.mpr c5
          have c5b1 : (t3 != 0) = true := bne_iff_ne.mpr c5
          obtain rfl : rest = [] := List.map_eq_nil_iff.1 (Option.some.inj H).symm
          clear c5 H
          have c1b : decide ((at_ : Int) < (l.length : Int)) = true := decide_eq_true (by omega)
          gi_wp2_with (first | (refine ⟨trivial, ?_⟩; gi_at_call 64; (try rw [← List.length_drop]); (with_reducible refine (callsIn_wide.2 (leb_Decode.calls k _ _ (l.drop at_) t1 t2 t3 _ HR.out HC7.out AD.out)).mono ?_); rintro e w' ⟨rfl, ⟨nd, rfl⟩⟩))
          refine ⟨fun _ h => (by cases h), ?_⟩
          gi_wp2
          refine bodyPost_ret (results_none rfl _ _ _) rfl ?_
          exact ⟨⟨_, rfl⟩, .inl ⟨_, by rw [HX.out, List.append_nil], HJA.out pre wr (wr.drewN nd) none HJ.out ⟨by first | rfl | simp, by first | rfl | simp, by first | rfl | simp, by simp, fun k _ _ => by simp⟩ (fun r e => by cases e)⟩⟩
      · rw [if_neg c1] at H
        obtain rfl : rest = [] := List.map_eq_nil_iff.1 (Option.some.inj H).symm
        clear H
        have c1b : decide ((at_ : Int) < (l.length : Int)) = false := decide_eq_false (by omega)
        gi_wp2
        go_end0
        exact ⟨⟨_, rfl⟩, .inl ⟨_, by rw [HX.out, List.append_nil], HJ.out⟩⟩
set_option maxHeartbeats 1600000 in
theorem leb_All_calls (A0 : Option Addr) (c0 : Nat) (l0 : List Int) (w : World) (hr0 : Kd.C (Kd.int .u8) w A0 l0.length l0) (hc0 : l0.length ≤ c0) (hn : l0.length ≤ 1099511627776) :
    Calls Try.prog 56 #[.slice A0 l0.length c0] w fun e w' => ∃ (B : Nat) (v : Value), e = .returned (.func (.func 63) #[] #[.pointer (some ⟨B, 0, none⟩)]) ∧ w.heap.size ≤ B ∧ Boxed w' B 44 v ∧ Kd.V (Kd.int .u8) 5 w' w.heap.size (fun k => w.heap.size ≤ k ∧ k ≠ B) v l0 ∧ Below w.heap.size w w' := by
  have HR0 := Aside0.mk hr0
  have HC0 := Aside0.mk hc0
  have HN := Aside0.mk hn
  clear hr0 hc0 hn
  have hi5 : (Try.prog.info? 5).map (fun i => (i.zero, i.size, i.bytes)) = some (some (.int .u8 0), 1, 1) := by kernel_rfl
  go_enter Try.func56, Try.ntmps56
  go_wp2_with ((with_reducible refine gate_dst (N := 5) rfl ?_); refine Kd.R_append_rows (Kd.int .u8) (w0 := w) w.heap.size rfl (.const (.slice none 0 0)) (.tmp 4) 44 5 (.int .u8 0) 1 rfl Try.underlying44 hi5 rfl (by decide) (by omega) (.slice none 0 0) [] l0 _ _ _ (fun _ => True) (fun _ => False) rfl rfl ?aO ?aR (fun _ _ h => h) (fun _ hk => hk.elim) (fun _ _ => trivial) ?aB ?aS ?aL ?_; (case aO => exact Kd.R_nil _ _ _ _ _); (case aR => exact HR0.out); (case aB => exact Below.refl _ _); (case aS => exact Nat.le_refl _); (case aL => have := HN.out; show (0 + l0.length) * 1 ≤ 140737488355328; omega); intro v1 w1 ho1 hb1 hg1 hat1; have n0 := Aside0.mk (show Kd.R (Kd.int .u8) 5 w1 w.heap.size (fun _ => True) v1 l0 from ho1); have n1 := Aside0.mk hb1; clear ho1 hb1 hg1 hat1; obtain ⟨Ao, co, eo⟩ := Kd.R_slice n0.out; subst eo)
  go_ret
  refine ⟨w1.heap.size, .slice Ao l0.length co, rfl, n1.out.size, Boxed.new _ _ _, ?_, n1.out.alloc n1.out.size _⟩
  refine Kd.V_alloc (Kd.V_mono (Kd.R_V (Kd.R_bound n0.out)) ?_) _
  intro k hk
  exact ⟨hk.2.1, by omega⟩

/-! ### leb_Size: function 57 -/
mutual
def leb_Size.l0 : Nat → Int → List Int → Int → Int → Option (Int)
  | 0, _, _, _, _ => none
  | k + 1, x3, x6, x7, x8 => if x8 < x7 then (if 0 ≤ x8 then (if x8 < (x6.length : Int) then (leb_Size.l1 k (wrap64 (x3 + 1)) (rd x6 x8) x6 x7 x8) else (none)) else (none)) else (some x3)
def leb_Size.l1 : Nat → Int → Int → List Int → Int → Int → Option (Int)
  | 0, _, _, _, _, _ => none
  | k + 1, x3, x5, x6, x7, x8 => if x5 > 127 then (leb_Size.l1 k (wrap64 (x3 + 1)) (x5 / 128) x6 x7 x8) else (leb_Size.l0 k x3 x6 x7 (wrap64 (x8 + 1)))
end
def leb_Size.f (k : Nat) (l0 : List Int) : Option (Int) := leb_Size.l0 k 0 l0 (l0.length : Int) 0
theorem leb_Size.mono_l : ∀ k, (∀ y0 y1 y2 y3, LeO (leb_Size.l0 k y0 y1 y2 y3) (leb_Size.l0 (k + 1) y0 y1 y2 y3)) ∧ (∀ y0 y1 y2 y3 y4, LeO (leb_Size.l1 k y0 y1 y2 y3 y4) (leb_Size.l1 (k + 1) y0 y1 y2 y3 y4))
  | 0 => ⟨fun _ _ _ _ r h => by simp [leb_Size.l0] at h, fun _ _ _ _ _ r h => by simp [leb_Size.l1] at h⟩
  | k + 1 => by
    obtain ⟨ih0, ih1⟩ := leb_Size.mono_l k
    refine ⟨?_, ?_⟩
    · intro y0 y1 y2 y3
      unfold leb_Size.l0
      repeat' first
      | (with_reducible exact ih0 _ _ _ _)
      | (with_reducible exact ih1 _ _ _ _ _)
      | (with_reducible exact LeO.refl _)
      | (with_reducible exact LeO.none _)
      | (with_reducible refine LeO.ite ?_ ?_)
      | (with_reducible refine LeO.bind ?_ (fun _ => ?_))
      | exact ih0 _ _ _ _
      | exact ih1 _ _ _ _ _
      | exact LeO.none _
      | refine LeO.ite ?_ ?_
      | refine LeO.bind ?_ (fun _ => ?_)
    · intro y0 y1 y2 y3 y4
      unfold leb_Size.l1
      repeat' first
      | (with_reducible exact ih0 _ _ _ _)
      | (with_reducible exact ih1 _ _ _ _ _)
      | (with_reducible exact LeO.refl _)
      | (with_reducible exact LeO.none _)
      | (with_reducible refine LeO.ite ?_ ?_)
      | (with_reducible refine LeO.bind ?_ (fun _ => ?_))
      | exact ih0 _ _ _ _
      | exact ih1 _ _ _ _ _
      | exact LeO.none _
      | refine LeO.ite ?_ ?_
      | refine LeO.bind ?_ (fun _ => ?_)
theorem leb_Size.mono : ∀ a0 k, LeO (leb_Size.f k a0) (leb_Size.f (k + 1) a0) := by
  intro a0 k
  obtain ⟨ih0, ih1⟩ := leb_Size.mono_l k
  unfold leb_Size.f
  repeat' first
      | (with_reducible exact ih0 _ _ _ _)
      | (with_reducible exact ih1 _ _ _ _ _)
      | (with_reducible exact LeO.refl _)
      | (with_reducible exact LeO.none _)
      | (with_reducible refine LeO.ite ?_ ?_)
      | (with_reducible refine LeO.bind ?_ (fun _ => ?_))
      | exact ih0 _ _ _ _
      | exact ih1 _ _ _ _ _
      | exact LeO.none _
      | refine LeO.ite ?_ ?_
      | refine LeO.bind ?_ (fun _ => ?_)
set_option maxHeartbeats 8000000 in
set_option maxRecDepth 100000 in
theorem leb_Size.calls (k : Nat) (A0 : Option Addr) (c0 : Nat) (l0 : List Int) (r : Int) (w : World) (hr0 : Kd.C (Kd.int .u64) w A0 l0.length l0) (hc0 : l0.length ≤ c0) (h : leb_Size.f k l0 = some r) :
    Calls Try.prog 57 #[.slice A0 l0.length c0] w fun e w' => e = .returned (.int .i64 r) ∧ Drawn0 w w' := by
  have HR0 := Aside0.mk hr0
  have HC0 := Aside0.mk hc0
  clear hr0 hc0
  have H : (leb_Size.l0 k 0 l0 (l0.length : Int) 0) = some r := h
  clear h
  have H' := Aside0.mk H
  clear H
  go_enter Try.func57, Try.ntmps57
  go_wp2
  go_loopg [3, 8] k (fun kq v3 v8 w' => ∃ (x3_1 : Int) (x8_1 : Int), v3 = .int .i64 x3_1 ∧ v8 = .int .i64 x8_1 ∧ Aside0 (leb_Size.l0 kq x3_1 l0 (l0.length : Int) x8_1 = some r) ∧ Aside0 (kq ≤ k) ∧ Drawn0 w w')
  case atStart => exact ⟨(0), (0), (by first | rfl | (simp; done) | (simp [*]; done)), (by first | rfl | (simp; done) | (simp [*]; done)), H', ⟨Nat.le_refl _⟩, by repeat (first | exact Drawn0.refl _ | apply Drawn0.step)⟩
  case round =>
    clear H'
    obtain ⟨x3_1, x8_1, rfl, rfl, HA, HK1, ⟨m1, rfl⟩⟩ := hrel
    cases gk with
    | zero => exact absurd HA.out (by simp [leb_Size.l0])
    | succ k1 =>
      have H := HA.out
      clear HA
      simp only [leb_Size.l0] at H
      by_cases c2 : x8_1 < (l0.length : Int)
      · rw [if_pos c2] at H
        have c2b0 : decide (x8_1 < (l0.length : Int)) = true := decide_eq_true c2
        clear c2
        by_cases c3 : 0 ≤ x8_1
        · rw [if_pos c3] at H
          have c3b0 : decide (0 ≤ x8_1) = true := decide_eq_true c3
          clear c3
          by_cases c4 : x8_1 < (l0.length : Int)
          · rw [if_pos c4] at H
            have c4b0 : decide (x8_1 < (l0.length : Int)) = true := decide_eq_true c4
            clear c4
            have H' := Aside0.mk H
            clear H
            have p185 : 0 ≤ (x8_1 : Int) := of_decide_eq_true (by first | (with_reducible assumption) | assumption)
            have q185 : x8_1 < (l0.length : Int) := of_decide_eq_true (by first | (with_reducible assumption) | assumption)
            obtain ⟨ad185, e185, hx185_0⟩ := Kd.at_int HR0.out x8_1 p185 q185
            cases e185
            replace p185 := eq_true p185
            replace q185 := eq_true q185
            go_wp2
            go_loopg [3, 5] k1 (fun kq v3 v5 w' => ∃ (x3_2 : Int) (x5_2 : Int), v3 = .int .i64 x3_2 ∧ v5 = .int .u64 x5_2 ∧ Aside0 (leb_Size.l1 kq x3_2 x5_2 l0 (l0.length : Int) x8_1 = some r) ∧ Aside0 (kq ≤ k1) ∧ Drawn0 w w')
            case atStart => exact ⟨(wrap64 (x3_1 + 1)), (rd l0 x8_1), (by first | rfl | (simp; done) | (simp [*]; done)), (by first | rfl | (simp; done) | (simp [*]; done)), H', ⟨Nat.le_refl _⟩, by repeat (first | exact Drawn0.refl _ | apply Drawn0.step)⟩
            case round =>
              clear H'
              try clear p1
              try clear q1
              try clear hx1
              try clear c2
              try clear c2b0
              try clear p2
              try clear c3
              try clear c3b0
              try clear c4
              try clear c4b0
              try clear hx185_0
              try clear p185
              try clear q185
              obtain ⟨x3_2, x5_2, rfl, rfl, HA, HK2, ⟨m2, rfl⟩⟩ := hrel
              cases gk with
              | zero => exact absurd HA.out (by simp [leb_Size.l1])
              | succ k2 =>
                have H := HA.out
                clear HA
                simp only [leb_Size.l1] at H
                by_cases c5 : x5_2 > 127
                · rw [if_pos c5] at H
                  have c5b0 : decide (127 < x5_2) = true := decide_eq_true c5
                  clear c5
                  have H' := Aside0.mk H
                  clear H
                  go_wp2
                  go_roundg k2
                  case measure => have := HK1.out; have := HK2.out; omega
                  case rel => exact ⟨(wrap64 (x3_2 + 1)), (x5_2 / 128), (by first | rfl | (simp; done) | (simp [*]; done)), (by first | rfl | (simp; done) | (simp [*]; done)), H', ⟨by have := HK1.out; have := HK2.out; omega⟩, by repeat (first | exact Drawn0.refl _ | apply Drawn0.step)⟩
                · rw [if_neg c5] at H
                  have c5b0 : decide (127 < x5_2) = false := decide_eq_false c5
                  clear c5
                  have H' := Aside0.mk H
                  clear H
                  go_wp2
                  go_roundg k2
                  case measure => have := HK1.out; have := HK2.out; omega
                  case rel => exact ⟨(x3_2), (wrap64 (x8_1 + 1)), (by first | rfl | (simp; done) | (simp [*]; done)), (by first | rfl | (simp; done) | (simp [*]; done)), H', ⟨by have := HK1.out; have := HK2.out; omega⟩, by repeat (first | exact Drawn0.refl _ | apply Drawn0.step)⟩
          · rw [if_neg c4] at H
            exact absurd H (by simp)
        · rw [if_neg c3] at H
          exact absurd H (by simp)
      · rw [if_neg c2] at H
        have c2b0 : decide (x8_1 < (l0.length : Int)) = false := decide_eq_false c2
        clear c2
        obtain rfl := Option.some.inj H
        go_wp2
        go_ret
        exact ⟨by first | rfl | (simp; done) | (simp [*]; done), by repeat (first | exact Drawn0.refl _ | apply Drawn0.step)⟩

/-! ### bytes_Equal: function 58 -/
def bytes_Equal.f (l0 : List Int) (l1 : List Int) : Option (Bool) := some ((strOfNums l0).toList == (strOfNums l1).toList)
set_option maxHeartbeats 8000000 in
set_option maxRecDepth 100000 in
theorem bytes_Equal.calls (A0 : Option Addr) (c0 : Nat) (l0 : List Int) (A1 : Option Addr) (c1 : Nat) (l1 : List Int) (r : Bool) (w : World) (hr0 : Kd.C (Kd.int .u8) w A0 l0.length l0) (hc0 : l0.length ≤ c0) (hr1 : Kd.C (Kd.int .u8) w A1 l1.length l1) (hc1 : l1.length ≤ c1) (h : bytes_Equal.f l0 l1 = some r) :
    Calls Try.prog 58 #[.slice A0 l0.length c0, .slice A1 l1.length c1] w fun e w' => e = .returned (.bool r) ∧ Drawn0 w w' := by
  have HR0 := Aside0.mk hr0
  have HC0 := Aside0.mk hc0
  clear hr0 hc0
  have HR1 := Aside0.mk hr1
  have HC1 := Aside0.mk hc1
  clear hr1 hc1
  have H : (some ((strOfNums l0).toList == (strOfNums l1).toList)) = some r := h
  clear h
  obtain rfl := Option.some.inj H
  have hcv3 := Kd.C_string (P := Try.prog) (A := A0) (c := c0) Try.underlying44 Try.underlying5 Try.underlying9 HR0.out
  have hcv4 := Kd.C_string (P := Try.prog) (A := A1) (c := c1) Try.underlying44 Try.underlying5 Try.underlying9 HR1.out
  go_enter Try.func58, Try.ntmps58
  go_wp2
  go_ret
  exact ⟨by first | rfl | (simp; done) | (simp [*]; done), by repeat (first | exact Drawn0.refl _ | apply Drawn0.step)⟩

end Go.Proofs.Ytjhijklgpgdlaaa.G
