-- Written for this claim by a program of this session (wip/xprint.py), by means of the kit's print. Not trusted: Lean checks it.
import Derived.Test.YtkkmceejfmjidaaGx0
import Derived.Test.YtkkmceejfmjidaaGx11
namespace Go.Proofs.Ytkkmceejfmjidaa.G
open Go.RowKit Go.Proofs.YtkkmceejfmjidaaW.PrintWords Go.Proofs.YtkkmceejfmjidaaW.PrintLast Go.Proofs.YtkkmceejfmjidaaW.PrintMore
attribute [local go_sem] max2_int min2_int max_two min_two max_three min_three max_four min_four   -- for this text's walks alone
set_option linter.unusedVariables false
set_option linter.unusedSimpArgs false

-- NOT PRINTED: function 39 (hawserref03_Writer_Fail)

-- NOT PRINTED: function 40 (hawserref03_Writer_lay)

/-! ### hawserref01_Bytes: function 41 -/
def hawserref01_Bytes.f : Nat → Int → Option (List Int)
  | 0, _ => none
  | k + 1, a0 => if a0 < 128 then (some (([(a0) % 256] : List Int))) else ((some (([(((Int.tmod a0 128) % 256) + 128) % 256] : List Int) : List Int)).bind fun y167 => ((hawserref01_Bytes.f k (IntKind.u64.wrap (Int.tdiv a0 128))).bind fun t170 => (if y167.length + t170.length < 140737488355328 then (some (y167 ++ t170)) else (none))))
theorem hawserref01_Bytes.mono_l : ∀ k, (∀ y0, LeO (hawserref01_Bytes.f k y0) (hawserref01_Bytes.f (k + 1) y0))
  | 0 => fun _ r h => by simp [hawserref01_Bytes.f] at h
  | k + 1 => by
    have ih0 := hawserref01_Bytes.mono_l k
    · intro y0
      unfold hawserref01_Bytes.f
      repeat' first
      | (with_reducible exact ih0 _)
      | (with_reducible exact LeO.refl _)
      | (with_reducible exact LeO.none _)
      | (with_reducible refine LeO.ite ?_ ?_)
      | (with_reducible refine LeO.bind ?_ (fun _ => ?_))
      | exact ih0 _
      | exact LeO.none _
      | refine LeO.ite ?_ ?_
      | refine LeO.bind ?_ (fun _ => ?_)
theorem hawserref01_Bytes.mono : ∀ a0 k, LeO (hawserref01_Bytes.f k a0) (hawserref01_Bytes.f (k + 1) a0) := by
  intro a0 k
  have ih0 := hawserref01_Bytes.mono_l k
  exact ih0 a0
set_option maxHeartbeats 8000000 in
set_option maxRecDepth 100000 in
theorem hawserref01_Bytes.calls (k : Nat) : ∀ (a0 : Int) (r : List Int) (w : World) (h : hawserref01_Bytes.f k a0 = some r),
    Calls Try.prog 41 #[.int .u64 a0] w fun e w' => ∃ v0_ : Value, e = .returned (v0_) ∧ Kd.R (Kd.int .u8) 5 w' w.heap.size (fun _ => True) v0_ r ∧ Below w.heap.size w w' := by
  induction k using Nat.strongRecOn with
  | _ k ih =>
  intro a0 r w h
  cases k with
  | zero => exact absurd h (by simp [hawserref01_Bytes.f])
  | succ k =>
  simp only [hawserref01_Bytes.f] at h
  have HB := A_ (Below.refl w.heap.size w)
  have H : (if a0 < 128 then (some (([(a0) % 256] : List Int))) else ((some (([(((Int.tmod a0 128) % 256) + 128) % 256] : List Int) : List Int)).bind fun y167 => ((hawserref01_Bytes.f k (IntKind.u64.wrap (Int.tdiv a0 128))).bind fun t170 => (if y167.length + t170.length < 140737488355328 then (some (y167 ++ t170)) else (none))))) = some r := h
  clear h
  by_cases c2 : a0 < 128
  · rw [if_pos c2] at H
    have c2b0 : decide (a0 < 128) = true := decide_eq_true c2
    clear c2
    obtain ⟨y164, hy164⟩ : ∃ y_ : List Int, y_ = (([(a0) % 256] : List Int)) := ⟨_, rfl⟩
    replace H : (some y164) = some r := by first | (rw [hy164]; with_reducible exact H) | (have H2_ := (Option.bind_some _ _).symm.trans H; rw [hy164]; with_reducible exact H2_) | (have H2_ := (Option.bind_some _ _).symm.trans H; with_reducible exact H2_) | with_reducible exact H | (rw [hy164]; exact H) | exact H
    have Ny164 := A_ hy164
    clear hy164
    obtain rfl := Option.some.inj H
    go_enter Try.func41, Try.ntmps41
    go_wp2_with (first | ((with_reducible refine gate_dst (N := 7) rfl ?_); refine Kd.R_lit (Kd.int .u8) _ 5 ?hg (N := 7) ?hd (xs := ([(a0) % 256] : List Int)) (inner := [.int .u8 ((a0) % 256)]) (ok := fun _ => True) (okp := fun _ => True) ?hr ?hp (fun _ hk => hk) trivial (Below.refl _ _) (Nat.le_refl _) (by simp) ?_; (case hd => rfl); (case hg => rfl); (case hr => first | (go_simp; done) | (go_simp; rfl)); (case hp => exact (Reps.one (show Kd.M (Kd.int .u8) _ _ _ ((a0) % 256) [.int .u8 ((a0) % 256)] from rfl) (Reps.none _ _))); intro v165 w3 ho4 hb hg_ hnew_; clear hg_ hnew_; (first | rw [← Ny164.out] at ho4 | (simp only [Int.reduceToNat] at ho4; rw [← Ny164.out] at ho4)); have n0_ := A_ (Kd.R_lower ho4 (below_size (by repeat (first | (with_reducible first | exact HB.out | apply pA_ | apply pN_ | apply pD_) | exact HB.out)))); have n1_ := A_ (below_step (by repeat (first | (with_reducible first | exact HB.out | apply pA_ | apply pN_ | apply pD_) | exact HB.out)) hb); clear HB; have HO166 := n0_; have HB := n1_; clear n0_ n1_; clear hb ho4))
    go_ret
    exact ⟨_, by first | rfl | (simp [errW_none, errW_some] <;> rfl) | (simp [*, errW_none, errW_some] <;> rfl), by (with_reducible repeat (first | apply Kd.R_alloc | apply Kd.R_drewN | apply Kd.R_drew)); exact HO166.out, by repeat (first | (with_reducible first | exact HB.out | apply pA_ | apply pN_ | apply pD_) | exact HB.out)⟩
  · rw [if_neg c2] at H
    have c2b0 : decide (a0 < 128) = false := decide_eq_false c2
    clear c2
    obtain ⟨y167, hy167⟩ : ∃ y_ : List Int, y_ = (([(((Int.tmod a0 128) % 256) + 128) % 256] : List Int)) := ⟨_, rfl⟩
    replace H : ((hawserref01_Bytes.f k (IntKind.u64.wrap (Int.tdiv a0 128))).bind fun t170 => (if y167.length + t170.length < 140737488355328 then (some (y167 ++ t170)) else (none))) = some r := by first | (rw [hy167]; with_reducible exact H) | (have H2_ := (Option.bind_some _ _).symm.trans H; rw [hy167]; with_reducible exact H2_) | (have H2_ := (Option.bind_some _ _).symm.trans H; with_reducible exact H2_) | with_reducible exact H | (rw [hy167]; exact H) | exact H
    have Ny167 := A_ hy167
    clear hy167
    replace H := Option.bind_eq_some_iff.mp H
    obtain ⟨t170, A50, H⟩ := H
    replace H : (if y167.length + t170.length < 140737488355328 then (some (y167 ++ t170)) else (none)) = some r := H
    have A5 := A_ A50
    clear A50
    by_cases c6 : y167.length + t170.length < 140737488355328
    · rw [if_pos c6] at H
      have LMc6 := A_ c6
      clear c6
      obtain ⟨y173, hy173⟩ : ∃ y_ : List Int, y_ = (y167 ++ t170) := ⟨_, rfl⟩
      replace H : (some y173) = some r := by first | (rw [hy173]; with_reducible exact H) | (have H2_ := (Option.bind_some _ _).symm.trans H; rw [hy173]; with_reducible exact H2_) | (have H2_ := (Option.bind_some _ _).symm.trans H; with_reducible exact H2_) | with_reducible exact H | (rw [hy173]; exact H) | exact H
      have Ny173 := A_ hy173
      clear hy173
      obtain rfl := Option.some.inj H
      go_enter Try.func41, Try.ntmps41
      go_wp2_with (first | ((with_reducible refine gate_dst (N := 12) rfl ?_); refine Kd.R_lit (Kd.int .u8) _ 5 ?hg (N := 12) ?hd (xs := ([(((Int.tmod a0 128) % 256) + 128) % 256] : List Int)) (inner := [.int .u8 ((((Int.tmod a0 128) % 256) + 128) % 256)]) (ok := fun _ => True) (okp := fun _ => True) ?hr ?hp (fun _ hk => hk) trivial (Below.refl _ _) (Nat.le_refl _) (by simp) ?_; (case hd => rfl); (case hg => rfl); (case hr => first | (go_simp; done) | (go_simp; rfl)); (case hp => exact (Reps.one (show Kd.M (Kd.int .u8) _ _ _ ((((Int.tmod a0 128) % 256) + 128) % 256) [.int .u8 ((((Int.tmod a0 128) % 256) + 128) % 256)] from rfl) (Reps.none _ _))); intro v168 w7 ho8 hb hg_ hnew_; clear hg_ hnew_; (first | rw [← Ny167.out] at ho8 | (simp only [Int.reduceToNat] at ho8; rw [← Ny167.out] at ho8)); have n0_ := A_ (Kd.R_lower ho8 (below_size (by repeat (first | (with_reducible first | exact HB.out | apply pA_ | apply pN_ | apply pD_) | exact HB.out)))); have n1_ := A_ (below_step (by repeat (first | (with_reducible first | exact HB.out | apply pA_ | apply pN_ | apply pD_) | exact HB.out)) hb); clear HB; have HO169 := n0_; have HB := n1_; clear n0_ n1_; clear hb ho8) | ((with_reducible refine gate_callee (f := 41) rfl ?_); refine goesL_ (some 15) rfl rfl Try.func41 (by kernel_rfl) rfl #[.int .u64 (IntKind.u64.wrap (Int.tdiv a0 128))] rfl (by (try simp only [List.map_toArray, List.map_cons, List.map_nil]); first | done | rfl | (simp only [List.length_drop, List.length_take]; rfl)) ?_; (with_reducible refine (ih k (by omega) (IntKind.u64.wrap (Int.tdiv a0 128)) t170 _ A5.out).mono ?_); rintro e w9 ⟨v171, rfl, ho0, hb⟩; refine ⟨_, rfl, ?_⟩; have n0_ := A_ (Kd.R_elder' (by (with_reducible repeat (first | apply Kd.R_alloc | apply Kd.R_drewN | apply Kd.R_drew)); exact HO169.out) (Kd.R_base ho0) hb); have n1_ := A_ (Kd.R_lower (Kd.R_new' ho0 (Kd.R_lt (by (with_reducible repeat (first | apply Kd.R_alloc | apply Kd.R_drewN | apply Kd.R_drew)); exact HO169.out))) (below_size (by repeat (first | (with_reducible first | exact HB.out | apply pA_ | apply pN_ | apply pD_) | exact HB.out)))); have n2_ := A_ (below_step (by repeat (first | (with_reducible first | exact HB.out | apply pA_ | apply pN_ | apply pD_) | exact HB.out)) hb); clear HO169; clear HB; have HO169 := n0_; have HO172 := n1_; have HB := n2_; clear n0_ n1_ n2_; (try clear hb); (try clear hb2); (try clear hk); (try clear hi); (try clear ho0); obtain ⟨Ao11, co11, eo11⟩ := Kd.R_slice HO172.out; subst eo11) | ((with_reducible refine gate_builtin (b := .append) (xs := #[.tmp 12, .tmp 15]) rfl ?_); at_builtin; refine Kd.R_append_rows (Kd.int .u8) (w0 := w) w.heap.size rfl (.tmp 12) (.tmp 15) 30 5 (.int .u8 0) 1 rfl Try.underlying30 info5 rfl (by decide) (by omega) v168 y167 t170 _ _ _ (fun k_ => some k_ ≠ (.slice Ao11 t170.length co11 : Value).ownBlock) (fun _ => False) rfl rfl ?aO ?aR (fun _ _ h => h) (fun _ h => h.elim) ?aF ?aB ?aS ?aL ?_; (case aR => repeat (first | exact (Kd.R_reads' HO172.out).2.2 | (with_reducible refine Kd.C_alloc ?_ _) | (with_reducible refine Kd.C_drewN ?_ _) | (with_reducible refine Kd.C_drew ?_))); (case aB => exact (by repeat (first | (with_reducible first | exact HB.out | apply pA_ | apply pN_ | apply pD_) | exact HB.out))); (case aF => exact (fun k_ hk => Kd.fresh' (Kd.R_lt (by (with_reducible repeat (first | apply Kd.R_alloc | apply Kd.R_drewN | apply Kd.R_drew)); exact HO172.out)) k_ hk)); (case aO => exact (by (with_reducible repeat (first | apply Kd.R_alloc | apply Kd.R_drewN | apply Kd.R_drew)); exact Kd.R_mono HO169.out (fun _ hk => hk.2))); (case aS => exact (below_size (by repeat (first | (with_reducible first | exact HB.out | apply pA_ | apply pN_ | apply pD_) | exact HB.out)))); (case aL => have := LMc6.out; omega); intro v174 w10 ho hb hg hat; rw [← Ny173.out] at ho; have n0_ := A_ (Kd.R_after (ok := (fun _ => True)) (by (with_reducible repeat (first | apply Kd.R_alloc | apply Kd.R_drewN | apply Kd.R_drew)); exact HO172.out) hg hat); have n1_ := A_ (hb); have n2_ := A_ (ho); clear HO172; clear HB; clear HO169; have HO172 := n0_; have HB := n1_; have HO175 := n2_; clear n0_ n1_ n2_; clear ho hb hg hat))
      go_ret
      exact ⟨_, by first | rfl | (simp [errW_none, errW_some] <;> rfl) | (simp [*, errW_none, errW_some] <;> rfl), by (with_reducible repeat (first | apply Kd.R_alloc | apply Kd.R_drewN | apply Kd.R_drew)); exact Kd.R_mono HO175.out (fun _ hk => trivial), by repeat (first | (with_reducible first | exact HB.out | apply pA_ | apply pN_ | apply pD_) | exact HB.out)⟩
    · rw [if_neg c6] at H
      exact absurd H (by simp)

-- NOT PRINTED: function 19 (hawserref03_Writer_Text)

-- NOT PRINTED: function 21 (hawserref03_Writer_Uint)

-- NOT PRINTED: function 20 (hawserref21_configBytes)

/-! ### hawserref21_Encode: function 6 -/
open Go.Proofs.Ytkkmceejfmjidaa.Blocks
theorem Wri_nums_app (k : IntKind) (a b : List Int) : nums k (a ++ b) = nums k a ++ nums k b := by simp [nums]
theorem Wri_own_slice {W : World} {base : Nat} {u : Value} {n : Nat} {z : List Value} (h : W.ownsRow base 5 1 u n z) : ∃ A c, u = .slice A n c ∧ n ≤ c := by
  obtain ⟨_, ⟨rfl, rfl⟩ | ⟨g, cap, cur, rfl, _, _, h1, _⟩⟩ := h
  · exact ⟨_, _, rfl, Nat.le_refl _⟩
  · exact ⟨_, _, rfl, h1⟩
theorem Wri_own_kept {W W' : World} {base m : Nat} {e : TypeId} {u : Value} {z : List Value} {row : Option Nat} (h : W.ownsRow base e 1 u m z) (hg : W.grownBy W' row) (hne : ∀ g, u.ownBlock = some g → row ≠ some g) : W'.ownsRow base e 1 u m z := by
  refine World.ownsRow.kept h hg ?_
  cases e : u.ownBlock with
  | none => exact .inl rfl
  | some g => exact .inr (fun h' => hne g e h'.symm)
theorem Wri_info_u8 : (Try.prog.info? 5).map (fun i => (i.zero, i.size, i.bytes)) = some (some (.int .u8 0), 1, 1) := by kernel_rfl
/-- An append upon a row of one's own, out of any bytes that are read. -/
theorem Wri_run_app {W : World} {base : Nat} {u : Value} {xs ys : List Int} (ho : W.ownsRow base 5 1 u xs.length (nums .u8 xs)) {A : Option Addr} {c : Nat} (hC : Kd.C (Kd.int .u8) W A ys.length ys) (t ty : TypeId) (ht : Try.prog.underlying t = some (.slice 5))
    (hl : xs.length + ys.length ≤ 140737488355328) (hb : base ≤ W.heap.size) :
    ∃ v' w', (Builtin.append_ #[t, t] ty #[u, .slice A ys.length c]).run Try.prog W = .ok v' w' ∧ w'.ownsRow base 5 1 v' (xs ++ ys).length (nums .u8 (xs ++ ys)) ∧ W.grownBy w' u.ownBlock ∧ (v'.ownBlock = u.ownBlock ∨ v'.ownBlock = some W.heap.size) := by
  obtain ⟨i0, hi, hzz⟩ := Option.map_eq_some_iff.1 Wri_info_u8
  simp only [Prod.mk.injEq] at hzz
  obtain ⟨hz0, hz1, hz2⟩ := hzz
  by_cases hm : ys = []
  · subst hm
    obtain ⟨Au, cu, rfl, hcu⟩ := Wri_own_slice ho
    have hsrc : Src Try.prog i0.size t (.slice A 0 c) 0 [] W := by
      cases A with
      | none => exact Src.ofNil W ht c
      | some a => exact Src.ofSlice W ht a 0 c [] (by simp) (by simp) (by simp)
    refine ⟨_, _, run_append_nothing W t t ty 5 i0 ht hi _ _ _ hcu _ hsrc, ?_, ⟨rfl, rfl, rfl, Nat.le_refl _, fun k _ _ => rfl⟩, .inl rfl⟩
    rw [List.append_nil]
    exact ho
  · have hp : 0 < ys.length := List.length_pos_iff.2 hm
    obtain ⟨ad, rfl, hnews⟩ := cells_of_C hC hp
    obtain ⟨v', w', hrun, hown, hg, _, hat⟩ := run_append_own_at (P := Try.prog) W base t ty 5 i0 (.int .u8 0) 1 1 ht hi hz0 hz1 hz2 rfl (by decide) u xs.length (nums .u8 xs) ho ad ys.length c (nums .u8 ys) (by rw [nums_length, Nat.mul_one]) hnews (nums_one _ _) (by simp only [maxLen]; omega) (by omega) hb
    refine ⟨v', w', hrun, ?_, hg, hat⟩
    rw [List.length_append, Wri_nums_app]
    exact hown
theorem Wri_wp_app {W : World} {base : Nat} {ops : Array Oper} {rest : List Oper} {o : Oper} {a : Act} {Q : Exit → Act → World → Prop} (hgd : o.guard = none) (s z : Operand) (t : TypeId) (hop : o.op = .call { callee := .builtin .append, args := #[s, z], argTypes := #[t, t] }) (ht : Try.prog.underlying t = some (.slice 5))
    (u : Value) (xs ys : List Int) (A : Option Addr) (c : Nat) (hs : a.eval s = u) (hx : a.eval z = .slice A ys.length c) (ho : W.ownsRow base 5 1 u xs.length (nums .u8 xs)) (hC : Kd.C (Kd.int .u8) W A ys.length ys)
    (hl : xs.length + ys.length ≤ 140737488355328) (hb : base ≤ W.heap.size)
    (h : ∀ v1 w1, w1.ownsRow base 5 1 v1 (xs ++ ys).length (nums .u8 (xs ++ ys)) → W.grownBy w1 u.ownBlock → (v1.ownBlock = u.ownBlock ∨ v1.ownBlock = some W.heap.size) → wpList Try.prog ops Q rest (a.put o.dst v1) w1) :
    wpList Try.prog ops Q (o :: rest) a W := by
  obtain ⟨v1, w1, hrun, h1, h2, h3⟩ := Wri_run_app ho (c := c) hC t o.type ht hl hb
  refine wpList_plain hgd fun K hK' => ?_
  unfold Oper.wp
  simp [execOp, hop, resolve, invoke, builtin, hs, hx, hrun, Result.andThen]
  exact hK' _ _ (h v1 w1 h1 h2 h3)
/-- A writer of the document's: block p holds its bytes, a row of its own, and its error. -/
structure Wri_RefW (W : World) (base p : Nat) (xs : List Int) : Prop where
  out : ∃ bv, W.heap[p]? = some (.cells #[bv, .int .i64 0] 53 (0, 0)) ∧ W.ownsRow base 5 1 bv xs.length (nums .u8 xs)
  ge : base ≤ p
theorem Wri_RefW.lt {W : World} {base p : Nat} {xs : List Int} (h : Wri_RefW W base p xs) : p < W.heap.size := by
  obtain ⟨bv, hb, _⟩ := h.out
  exact blk_lt hb
theorem Wri_own_ne {W : World} {base p m : Nat} {e t : TypeId} {cs : Array Value} {u : Value} {z : List Value} (hp : W.heap[p]? = some (.cells cs t (0, 0))) (h : W.ownsRow base e 1 u m z) (hne : e ≠ t) : some p ≠ u.ownBlock := by
  intro h1
  obtain ⟨c1, k1⟩ := own_typed h p h1.symm
  rw [hp] at k1
  injection k1 with k1
  injection k1 with _ k1
  exact hne k1.symm
theorem Wri_RefW.below {W W' : World} {base p : Nat} {xs : List Int} (h : Wri_RefW W base p xs) (hB : Below W.heap.size W W') : Wri_RefW W' base p xs := by
  obtain ⟨bv, hb, ho⟩ := h.out
  have hg : W.grownBy W' none := ⟨hB.os, hB.tape, hB.output, hB.size, fun k hk _ => hB.block k hk⟩
  exact ⟨⟨bv, blk_below hb hB, Wri_own_kept ho hg (fun _ _ e => by cases e)⟩, h.ge⟩
set_option maxRecDepth 100000 in
theorem Wri_rlay_calls {W : World} {base p : Nat} {xs : List Int} (h : Wri_RefW W base p xs) (ys : List Int) (A : Option Addr) (c : Nat) (hC : Kd.C (Kd.int .u8) W A ys.length ys) (hl : xs.length + ys.length ≤ 140737488355328) :
    Calls Try.prog 40 #[.pointer (some ⟨p, 0, none⟩), .slice A ys.length c] W fun r w' => r = .returned (.tuple #[]) ∧ Wri_RefW w' base p (xs ++ ys) ∧ Below base W w' := by
  obtain ⟨bv, hb, ho⟩ := h.out
  have hlt := h.lt
  have hge := h.ge
  have hc0 : W.cell? ⟨p, 0, none⟩ = some bv := blk_cell hb 0
  have hc1 : W.cell? ⟨p, 1, none⟩ = some (.int .i64 0) := blk_cell hb 1
  obtain ⟨Ab, cb, rfl, _⟩ := Wri_own_slice ho
  have HO := Aside0.mk ho
  have HC := Aside0.mk hC
  have HB := Aside0.mk hb
  clear ho hC hb
  go_enter Try.func40, Try.ntmps40
  go_wp2_with (first | ((with_reducible refine gate_builtin (b := .append) (xs := #[.tmp 13, .tmp 14]) rfl ?_); at_builtin; refine Wri_wp_app (base := base) rfl (.tmp 13) (.tmp 14) 30 rfl Try.underlying30 (.slice Ab xs.length cb) xs ys A c ?s_ ?x_ HO.out HC.out hl (by omega) ?_; (case s_ => go_simp); (case x_ => go_simp); intro v1 w1 h1_ h2_ h3_; obtain ⟨A1, c1, hv1, _⟩ := Wri_own_slice h1_; subst hv1; have hb1_ := blk_grown HB.out h2_ (Wri_own_ne HB.out HO.out (by decide)); have hf1 := blk_frozen hb1_ 0; have hd1 := blk_cell hb1_ 0; have h1 := Aside0.mk h1_; have h2 := Aside0.mk h2_; have hb1 := Aside0.mk hb1_; clear h1_ h2_ h3_ hb1_) | go_in)
  go_end0
  refine ⟨rfl, ⟨⟨_, blk_set hb1.out 0 _, ?_⟩, hge⟩, ?_⟩
  · have h9 := own_setCell h1.out (p := ⟨p, 0, none⟩) (Wri_own_ne hb1.out h1.out (by decide)) (.slice A1 (xs ++ ys).length c1)
    simpa only [List.length_append] using h9
  · exact ((Below.refl base W).grown h2.out (by omega) (fun k hk => (World.ownsRow.lt HO.out k hk).1)).setCell hge _
theorem Wri_below_weak {B B' : Nat} {a b : World} (h : Below B' a b) (hb : B ≤ B') : Below B a b := ⟨h.os, h.tape, h.output, h.size, fun k hk => h.block k (by omega)⟩
set_option maxRecDepth 100000 in
theorem Wri_ruint_calls (k : Nat) {W : World} {base p : Nat} {xs : List Int} (h : Wri_RefW W base p xs) (v : Int) (ys : List Int) (hf : hawserref01_Bytes.f k v = some ys) (hl : xs.length + ys.length ≤ 140737488355328) :
    Calls Try.prog 21 #[.pointer (some ⟨p, 0, none⟩), .int .u64 v] W fun r w' => r = .returned (.tuple #[]) ∧ Wri_RefW w' base p (xs ++ ys) ∧ Below base W w' := by
  have hlt := h.lt
  have hge := h.ge
  have H := Aside0.mk h
  clear h
  go_enter Try.func21, Try.ntmps21
  go_wp2_with (first | (go_at_call 41; refine (hawserref01_Bytes.calls k v ys _ hf).mono ?_; rintro r w1 ⟨u, rfl, hO_, hB_⟩; obtain ⟨A1, c1, rfl⟩ := Kd.R_slice hO_; have hO := Aside0.mk hO_; have hB := Aside0.mk hB_; have H1 := Aside0.mk (H.out.below hB_); clear hO_ hB_) | (go_at_call 40; refine (Wri_rlay_calls H1.out ys A1 c1 (Kd.R_reads' hO.out).2.2 hl).mono ?_; rintro r w2 ⟨rfl, h2_, hB2_⟩; have h2 := Aside0.mk h2_; have hB2 := Aside0.mk hB2_; clear h2_ hB2_) | go_in)
  go_end0
  exact ⟨rfl, h2.out, (Wri_below_weak hB.out (by omega)).trans hB2.out⟩
/-- A text's bytes, as numbers. -/
def Wri_bytesOf (s : ByteArray) : List Int := s.data.toList.map fun b => (b.toNat : Int)
theorem Wri_bytesOf_len (s : ByteArray) : (Wri_bytesOf s).length = s.size := by
  unfold Wri_bytesOf
  rw [List.length_map, Array.length_toList]
  rfl
theorem Wri_below_bytes (w : World) (e : TypeId) (s : ByteArray) : Below w.heap.size w (Lib.bytesWorld w e s) := ⟨rfl, rfl, rfl, by rw [Lib.bytesWorld_size]; omega, fun k hk => Lib.bytesWorld_at_old w e s k hk⟩
theorem Wri_C_cells {W : World} {g : Nat} {l : List Int} (hl : l.length ≤ 9223372036854775807) (h : ∀ j x, l[j]? = some x → W.cell? ⟨g, j, none⟩ = some (.int .u8 x)) : Kd.C (Kd.int .u8) W (some ⟨g, 0, none⟩) l.length l := by
  refine ⟨rfl, hl, fun _ => ⟨_, rfl, fun j p hj => ⟨[.int .u8 p], rfl, rfl, fun i u hu => ?_⟩⟩⟩
  have hi : i = 0 := by
    rcases i with _ | i
    · rfl
    · simp at hu
  subst hi
  have hu : Value.int .u8 p = u := by simpa using hu
  subst hu
  have : (⟨g, 0, none⟩ : Addr).add (j * (Kd.int .u8).sz + 0) = ⟨g, j, none⟩ := by
    rw [show j * (Kd.int .u8).sz + 0 = j from Nat.mul_one j]
    unfold Addr.add; split <;> simp_all
  rw [this]
  exact h j p hj
theorem Wri_C_bytes (w : World) (e : TypeId) (s : ByteArray) (hs : s.size ≤ 9223372036854775807) : Kd.C (Kd.int .u8) (Lib.bytesWorld w e s) (some ⟨w.heap.size, 0, none⟩) (Wri_bytesOf s).length (Wri_bytesOf s) := by
  refine Wri_C_cells (by rw [Wri_bytesOf_len]; exact hs) (fun j x hj => ?_)
  have hlt : j < s.size := by rw [← Wri_bytesOf_len]; exact (List.getElem?_eq_some_iff.1 hj).1
  rw [Lib.bytesWorld_cell w e s j hlt]
  have hlt2 : j < s.data.toList.length := by rw [Array.length_toList]; exact hlt
  have hx : ((s.data.toList.getD j 0).toNat : Int) = x := by
    unfold Wri_bytesOf at hj
    rw [List.getElem?_map, List.getElem?_eq_getElem hlt2] at hj
    rw [List.getD_eq_getElem?_getD, List.getElem?_eq_getElem hlt2]
    exact Option.some.inj hj
  rw [hx]
theorem Wri_C_own {W : World} {base : Nat} {t : TypeId} {A : Option Addr} {c : Nat} {xs : List Int} (h : W.ownsRow base t 1 (.slice A xs.length c) xs.length (nums .u8 xs)) : Kd.C (Kd.int .u8) W A xs.length xs := (Kd.R_reads' (ok := fun _ => True) (Kd.R_of_own h (fun _ _ => trivial))).2.2
theorem Wri_app_below {n l : Nat} {t : TypeId} {W w1 w1' w2 : World} {u : Value} {z : List Value} (hB : Below n W w1) (hb : Below w1.heap.size w1 w1') (ho : w1'.ownsRow n t 1 u l z) (hn : n ≤ w1.heap.size) (hg : w1'.grownBy w2 u.ownBlock) : Below n W w2 := by
  exact (hB.trans (Wri_below_weak hb hn)).grown hg (by have := hb.size; omega) (fun k hk => (World.ownsRow.lt ho k hk).1)
set_option maxRecDepth 100000 in
theorem Wri_rtext_calls (k : Nat) {W : World} {base p : Nat} {xs : List Int} (h : Wri_RefW W base p xs) (s : ByteArray) (most : Int) (ys : List Int) (hf : hawserref01_Bytes.f k (s.size : Int) = some ys) (h0 : 0 ≤ most) (hm : (s.size : Int) ≤ most) (hsz : s.size ≤ 1099511627776) (hl : xs.length + ys.length ≤ 1099511627776) :
    Calls Try.prog 19 #[.pointer (some ⟨p, 0, none⟩), .string s, .int .i64 most] W fun r w' => r = .returned (.tuple #[]) ∧ Wri_RefW w' base p (xs ++ (ys ++ Wri_bytesOf s)) ∧ Below base W w' := by
  have hlt := h.lt
  have hge := h.ge
  have H := Aside0.mk h
  clear h
  have hbl := Wri_bytesOf_len s
  have hlen9 : (ys ++ Wri_bytesOf s).length = ys.length + s.size := by rw [List.length_append, hbl]
  have hm' : ¬ most < (s.size : Int) := by omega
  have h0' : ¬ most < 0 := by omega
  have hcv := fun (w : World) => Lib.run_convert_string_bytes (P := Try.prog) w 9 30 5 s Try.underlying9 Try.underlying30 Try.underlying5
  go_enter Try.func19, Try.ntmps19
  go_wp2_with (first | (go_at_call 41; refine (hawserref01_Bytes.calls k _ ys _ hf).mono ?_; rintro r w1 ⟨u, rfl, hO_, hB_⟩; obtain ⟨A1, c1, rfl⟩ := Kd.R_slice hO_; have hb9 := Wri_below_bytes w1 5 s; have hO := Aside0.mk (Kd.own_of_R (Kd.R_below hO_ hb9)); have hB := Aside0.mk hB_; have H1 := Aside0.mk ((H.out.below hB_).below hb9); have hb9' := Aside0.mk hb9; clear hO_ hB_ hb9) | ((with_reducible refine gate_builtin (b := .append) (xs := #[.tmp 20, .tmp 22]) rfl ?_); at_builtin; refine Wri_wp_app (base := W.heap.size) rfl (.tmp 20) (.tmp 22) 30 rfl Try.underlying30 (.slice A1 ys.length c1) ys (Wri_bytesOf s) (some ⟨w1.heap.size, 0, none⟩) (grownCap w1 s.size 0 5) ?s_ ?x_ hO.out (Wri_C_bytes w1 5 s (by omega)) (by omega) (by rw [Lib.bytesWorld_size]; have := hB.out.size; omega) ?_; (case s_ => go_simp); (case x_ => rw [hbl]; go_simp); intro v2 w2 h1_ h2_ h3_; obtain ⟨A2, c2, hv2, _⟩ := Wri_own_slice h1_; subst hv2; have hB2_ : Below W.heap.size W w2 := (Wri_app_below hB.out hb9'.out hO.out hB.out.size h2_); have h1 := Aside0.mk h1_; have hB2 := Aside0.mk hB2_; have H2 := Aside0.mk (H.out.below hB2_); clear h1_ h2_ h3_ hB2_) | (go_at_call 40; have q_ := Wri_rlay_calls H2.out (ys ++ Wri_bytesOf s) A2 c2 (Wri_C_own h1.out) (by rw [hlen9]; omega); rw [hlen9] at q_; refine q_.mono ?_; clear q_; rintro r w3 ⟨rfl, h3_, hB3_⟩; have h3 := Aside0.mk h3_; have hB3 := Aside0.mk hB3_; clear h3_ hB3_) | go_in)
  go_end0
  exact ⟨rfl, h3.out, (Wri_below_weak hB2.out (by omega)).trans hB3.out⟩
theorem Wri_wrap_u64_eq (x : Int) : IntKind.u64.wrap x = x % 18446744073709551616 := by
  simp [IntKind.wrap, IntKind.signed, IntKind.bits]
theorem Wri_wrap_u64 (x : Int) : 0 ≤ IntKind.u64.wrap x ∧ IntKind.u64.wrap x < 18446744073709551616 := by
  rw [Wri_wrap_u64_eq]
  omega
theorem Wri_bytes_ok : ∀ (k : Nat) (v : Int), k < 1000 → 0 ≤ v → v < 18446744073709551616 → v < 128 ^ (k + 1) → ∃ r, hawserref01_Bytes.f (k + 1) v = some r ∧ r.length ≤ k + 1
  | 0, v, hk, h0, h1, h2 => by
    refine ⟨[v % 256], ?_, by simp⟩
    rw [hawserref01_Bytes.f, if_pos (by simpa using h2)]
  | k + 1, v, hk, h0, h1, h2 => by
    rw [hawserref01_Bytes.f]
    by_cases h : v < 128
    · rw [if_pos h]
      exact ⟨_, rfl, by simp⟩
    · rw [if_neg h]
      have hw : IntKind.u64.wrap (v.tdiv 128) = v / 128 := by
        rw [Int.tdiv_eq_ediv_of_nonneg h0, Wri_wrap_u64_eq]
        omega
      obtain ⟨r, hr, hl⟩ := Wri_bytes_ok k (v / 128) (by omega) (by omega) (by omega) (by rw [Int.pow_succ] at h2; omega)
      refine ⟨[(v.tmod 128 % 256 + 128) % 256] ++ r, ?_, by rw [List.length_append, List.length_singleton]; omega⟩
      rw [hw, hr]
      simp only [Option.bind_some]
      rw [if_pos (by rw [List.length_singleton]; omega)]
def Wri_refB (v : Int) : List Int := (hawserref01_Bytes.f 100 v).getD []
theorem Wri_refB_ok (v : Int) (h0 : 0 ≤ v) (h1 : v < 18446744073709551616) : hawserref01_Bytes.f 100 v = some (Wri_refB v) ∧ (Wri_refB v).length ≤ 100 := by
  obtain ⟨r, hr, hl⟩ := Wri_bytes_ok 99 _ (by omega) h0 h1 (Int.lt_of_lt_of_le h1 (by decide))
  rw [Wri_refB, hr]
  exact ⟨rfl, hl⟩
theorem Wri_refB_eq (x : Int) : hawserref01_Bytes.f 100 (IntKind.u64.wrap x) = some (Wri_refB (IntKind.u64.wrap x)) ∧ (Wri_refB (IntKind.u64.wrap x)).length ≤ 100 :=
  Wri_refB_ok _ (Wri_wrap_u64 x).1 (Wri_wrap_u64 x).2
theorem Wri_ruintB_calls {W : World} {base p : Nat} {xs : List Int} (h : Wri_RefW W base p xs) (v : Int) (h0 : 0 ≤ v) (h1 : v < 18446744073709551616) (hl : xs.length ≤ 1099511627776) :
    Calls Try.prog 21 #[.pointer (some ⟨p, 0, none⟩), .int .u64 v] W fun r w' => r = .returned (.tuple #[]) ∧ Wri_RefW w' base p (xs ++ Wri_refB v) ∧ Below base W w' := by
  obtain ⟨hk, h2⟩ := Wri_refB_ok v h0 h1
  exact Wri_ruint_calls 100 h _ _ hk (by omega)
def Wri_refBs (l : List Int) : List Int := l.flatMap fun n => Wri_refB (IntKind.u64.wrap n)
theorem Wri_refBs_len (l : List Int) : (Wri_refBs l).length ≤ 100 * l.length := by
  induction l with
  | nil => simp [Wri_refBs]
  | cons a l ih =>
    have h1 := (Wri_refB_eq a).2
    simp only [Wri_refBs, List.flatMap_cons, List.length_append, List.length_cons] at ih ⊢
    omega
theorem Wri_refBs_take (l : List Int) (i : Nat) (h : i < l.length) : Wri_refBs (l.take (i + 1)) = Wri_refBs (l.take i) ++ Wri_refB (IntKind.u64.wrap (l.getD i 0)) := by
  rw [List.take_add_one, List.getElem?_eq_getElem h, Option.toList_some, Wri_refBs, List.flatMap_append]
  simp [Wri_refBs, List.getD_eq_getElem?_getD, h]
theorem Wri_refBs_take_len (l : List Int) (i : Nat) : (Wri_refBs (l.take i)).length ≤ 100 * l.length := by
  have h := Wri_refBs_len (l.take i)
  rw [List.length_take] at h
  omega
def Wri_refCfg (a0 : Int) (l : List Int) : List Int := Wri_refB (IntKind.u64.wrap a0) ++ Wri_refB (l.length : Int) ++ Wri_refBs l
theorem Wri_RefW.new {W : World} {p : Nat} (h : W.heap[p]? = some (.cells #[.slice none 0 0, .int .i64 0] 53 (0, 0))) : Wri_RefW W p p [] :=
  ⟨⟨_, h, by simp [nums], .inl ⟨rfl, rfl⟩⟩, Nat.le_refl _⟩
theorem Wri_own_lower' {W : World} {base base' n : Nat} {t : TypeId} {u : Value} {z : List Value} (h : W.ownsRow base t 1 u n z) (hb : base' ≤ base) : W.ownsRow base' t 1 u n z := by
  refine ⟨h.1, ?_⟩
  rcases h.2 with h0 | ⟨g, cap, cur, hv, hg, hrest⟩
  · exact .inl h0
  · exact .inr ⟨g, cap, cur, hv, by omega, hrest⟩
theorem Wri_blk_low {n g : Nat} {W W' : World} {o : Obj} (h : W.heap[g]? = some o) (hB : Below n W W') (hg : g < n) : W'.heap[g]? = some o := by
  rw [hB.block g hg]
  exact h
set_option maxHeartbeats 400000 in
set_option maxRecDepth 100000 in
theorem Wri_rcfg_calls (a0 : Int) (A : Option Addr) (c : Nat) (l : List Int) (W : World) (hr : Kd.C (Kd.int .i64) W A l.length l) (hc : l.length ≤ c) (hl : l.length ≤ 1048576) :
    Calls Try.prog 20 #[.agg #[.int .i64 a0, .slice A l.length c]] W fun e w' => ∃ v, e = .returned v ∧ w'.ownsRow W.heap.size 5 1 v (Wri_refCfg a0 l).length (nums .u8 (Wri_refCfg a0 l)) ∧ Below W.heap.size W w' := by
  have HR := Aside0.mk hr
  clear hr
  have hn0 := (Wri_refB_eq a0).2
  have hn1 := (Wri_refB_ok (l.length : Int) (by omega) (by omega)).2
  have hw0 := Aside0.mk (Wri_wrap_u64 a0)
  have hnl := fun i => Wri_refBs_take_len l i
  go_enter Try.func20, Try.ntmps20
  go_wp2_with (first | ((with_reducible refine gate_dst (N := 1) rfl ?_); refine box_event ?hg (N := 1) ?hd (cs := #[.int .i64 a0, .slice A l.length c]) (t := 24) ?hr ?_; (case hd => rfl); (case hg => rfl); (case hr => first | (go_simp; done) | (go_simp; rfl)); intro g1 hg1 w1 hb1_ hB1_; have HB := Aside0.mk hB1_; have BK := Aside0.mk hb1_; have hlt1 := blk_lt hb1_; have hge1 : W.heap.size ≤ g1 := (by omega); clear hB1_ hb1_ hg1 ) | ((with_reducible refine gate_dst (N := 7) rfl ?_); refine box_event ?hg (N := 7) ?hd (cs := #[.slice none 0 0, .int .i64 0]) (t := 53) ?hr ?_; (case hd => rfl); (case hg => rfl); (case hr => first | (go_simp; done) | (go_simp; rfl)); intro p hp w2 hb2_ hB2_; have BK2 := Aside0.mk (Wri_blk_low BK.out hB2_ hlt1); have hlt2 : g1 < p := (by omega); have hge2 : W.heap.size ≤ p := (by omega); have HB2 := Aside0.mk (HB.out.trans (Wri_below_weak hB2_ HB.out.size)); clear HB; have HB := HB2; clear HB2 BK; have BK := BK2; clear BK2; have HW := Aside0.mk (Wri_RefW.new hb2_); have hcz0 := blk_cell BK.out 0; have hcz1 := blk_cell BK.out 1; have hfz0 := blk_frozen BK.out 0; have hfz1 := blk_frozen BK.out 1; clear hB2_ hb2_ hp ) | (go_at_call_has 21 (IntKind.u64.wrap a0); refine (Wri_ruintB_calls HW.out (IntKind.u64.wrap a0) hw0.out.1 hw0.out.2 ?len).mono ?_; (case len => simp only [List.length_append, List.length_nil]; omega); rintro r w3 ⟨rfl, h3_, hB3_⟩; have BK2 := Aside0.mk (Wri_blk_low BK.out hB3_ hlt2); have HB2 := Aside0.mk (HB.out.trans (Wri_below_weak hB3_ hge2)); clear HW; have HW := Aside0.mk h3_; clear HB; have HB := HB2; clear HB2 BK; have BK := BK2; clear BK2; have hcz0 := blk_cell BK.out 0; have hcz1 := blk_cell BK.out 1; have hfz0 := blk_frozen BK.out 0; have hfz1 := blk_frozen BK.out 1; clear hB3_ h3_) | (go_at_call_has 21 ((l.length : Nat) : Int); refine (Wri_ruintB_calls HW.out (l.length : Int) (by omega) (by omega) ?len).mono ?_; (case len => simp only [List.length_append, List.length_nil]; omega); rintro r w3 ⟨rfl, h3_, hB3_⟩; have BK2 := Aside0.mk (Wri_blk_low BK.out hB3_ hlt2); have HB2 := Aside0.mk (HB.out.trans (Wri_below_weak hB3_ hge2)); clear HW; have HW := Aside0.mk h3_; clear HB; have HB := HB2; clear HB2 BK; have BK := BK2; clear BK2; have hcz0 := blk_cell BK.out 0; have hcz1 := blk_cell BK.out 1; have hfz0 := blk_frozen BK.out 0; have hfz1 := blk_frozen BK.out 1; clear hB3_ h3_) | go_in)
  have hs0 : ([] ++ Wri_refB (IntKind.u64.wrap a0) ++ Wri_refB (l.length : Int) ++ Wri_refBs (l.take 0)) = [] ++ Wri_refB (IntKind.u64.wrap a0) ++ Wri_refB (l.length : Int) := by simp [Wri_refBs]
  go_loopg [22] (l.length + 1) (fun kq v22 w' => ∃ i : Nat, v22 = .int .i64 (i : Int) ∧ Aside0 (i + kq = l.length + 1) ∧ Aside0 (i ≤ l.length) ∧ Aside0 (Wri_RefW w' p p ([] ++ Wri_refB (IntKind.u64.wrap a0) ++ Wri_refB (l.length : Int) ++ Wri_refBs (l.take i))) ∧ Aside0 (Below W.heap.size W w'))
  case atStart => exact ⟨0, rfl, ⟨by omega⟩, ⟨by omega⟩, ⟨by rw [hs0]; exact HW.out⟩, HB⟩
  case round =>
    clear HW HB BK hcz0 hcz1 hfz0 hfz1 hs0
    obtain ⟨i, rfl, HI, HK, HW, HB⟩ := hrel
    cases gk with
    | zero => exact absurd HI.out (by have := HK.out; omega)
    | succ k1 =>
      by_cases hi : i < l.length
      · have p124 : 0 ≤ (i : Int) := by omega
        have q124 : (i : Int) < (l.length : Int) := by omega
        obtain ⟨ad124, e124, hx124_0⟩ := Kd.at_int HR.out (i : Int) p124 q124
        cases e124
        replace hx124_0 := (HB.out.cell (World.block_lt_of_cell? W _ hx124_0)).trans hx124_0
        obtain ⟨x, hx⟩ : ∃ x, x = rd l (i : Int) := ⟨_, rfl⟩
        rw [← hx] at hx124_0
        have hnn := (Wri_refB_eq x).2
        have hw1 := Aside0.mk (Wri_wrap_u64 x)
        have hnt := hnl i
        have hlen8 : (Wri_refBs (l.take (i + 1))) = Wri_refBs (l.take i) ++ Wri_refB (IntKind.u64.wrap x) := by rw [hx, show rd l (i : Int) = l.getD i 0 by simp [rd]]; exact Wri_refBs_take l i hi
        clear hx
        rw [Int.toNat_natCast] at hx124_0
        replace p124 := eq_true p124
        replace q124 := eq_true q124
        go_wp2_with (first | (go_at_call 21; refine (Wri_ruintB_calls HW.out (IntKind.u64.wrap x) hw1.out.1 hw1.out.2 ?len).mono ?_; (case len => simp only [List.length_append, List.length_nil]; omega); rintro r w3 ⟨rfl, h3_, hB3_⟩; have HB2 := Aside0.mk (HB.out.trans (Wri_below_weak hB3_ hge2)); clear HW; have HW := Aside0.mk h3_; clear HB; have HB := HB2; clear HB2; clear hB3_ h3_) | go_in)
        go_roundg k1
        case measure => omega
        case rel => exact ⟨i + 1, (by push_cast; rfl), ⟨by have := HI.out; omega⟩, ⟨by omega⟩, ⟨by rw [hlen8, ← List.append_assoc]; exact HW.out⟩, HB⟩
      · have q124 : ¬ (i : Int) < (l.length : Int) := by omega
        obtain ⟨bv, hbp, hown⟩ := HW.out.out
        have hcp0 := blk_cell hbp 0
        have hfp0 := blk_frozen hbp 0
        have HO := Aside0.mk hown
        have hil : i = l.length := by have := HK.out; omega
        clear hown hbp
        go_wp2
        go_ret
        refine ⟨_, rfl, ?_, HB.out⟩
        have h9 := Wri_own_lower' HO.out hge2
        rw [hil, List.take_length, List.nil_append] at h9
        exact h9
def Wri_refEnc (a0 : Int) (l : List Int) (a2 a3 a4 a5 : Int) : List Int :=
  [] ++ (Wri_refB ((strOfNums (Wri_refCfg a0 l)).size : Int) ++ Wri_bytesOf (strOfNums (Wri_refCfg a0 l))) ++ Wri_refB (IntKind.u64.wrap a2) ++ Wri_refB (IntKind.u64.wrap a3) ++ Wri_refB (IntKind.u64.wrap a4) ++ Wri_refB (IntKind.u64.wrap a5)
theorem Wri_refCfg_len (a0 : Int) (l : List Int) (hl : l.length ≤ 1048576) : (Wri_refCfg a0 l).length ≤ 200 + 100 * l.length := by
  have h0 := (Wri_refB_eq a0).2
  have h1 := (Wri_refB_ok (l.length : Int) (by omega) (by omega)).2
  have h2 := Wri_refBs_len l
  simp only [Wri_refCfg, List.length_append]
  omega
theorem Wri_strOfNums_size' (xs : List Int) : (strOfNums xs).size = xs.length := by simp [strOfNums, ByteArray.size]
set_option maxHeartbeats 1000000 in
set_option maxRecDepth 100000 in
theorem Wri_renc_calls (a0 : Int) (A : Option Addr) (c : Nat) (l : List Int) (a2 a3 a4 a5 : Int) (e : Int) (W : World) (hr : Kd.C (Kd.int .i64) W A l.length l) (hc : l.length ≤ c) (hl : l.length ≤ 1048576) (hf : hawserref21_Check.f 100 a0 l a2 a3 a4 a5 = some e) :
    Calls Try.prog 6 #[.agg #[.int .i64 a0, .slice A l.length c, .int .i64 a2, .int .i64 a3, .int .i64 a4, .int .i64 a5]] W fun r w' => ∃ v, r = .returned (.tuple #[v, .int .i64 e]) ∧ w'.ownsRow W.heap.size 5 1 v (if e = 0 then Wri_refEnc a0 l a2 a3 a4 a5 else []).length (nums .u8 (if e = 0 then Wri_refEnc a0 l a2 a3 a4 a5 else [])) ∧ Below W.heap.size W w' := by
  have HR := Aside0.mk hr
  clear hr
  have HF := Aside0.mk hf
  clear hf
  have hcl := Wri_refCfg_len a0 l hl
  have hsz := Wri_strOfNums_size' (Wri_refCfg a0 l)
  have hs0 := Wri_refB_ok ((strOfNums (Wri_refCfg a0 l)).size : Int) (by omega) (by omega)
  have hs1 := hs0.1
  have hsl := hs0.2
  have hs2 : ((strOfNums (Wri_refCfg a0 l)).size : Int) ≤ 1152921504606846976 := by omega
  have hs3 : (strOfNums (Wri_refCfg a0 l)).size ≤ 1099511627776 := by omega
  clear hs0
  have hwa2 := Aside0.mk (Wri_wrap_u64 a2)
  have hna2 := (Wri_refB_eq a2).2
  have hwa3 := Aside0.mk (Wri_wrap_u64 a3)
  have hna3 := (Wri_refB_eq a3).2
  have hwa4 := Aside0.mk (Wri_wrap_u64 a4)
  have hna4 := (Wri_refB_eq a4).2
  have hwa5 := Aside0.mk (Wri_wrap_u64 a5)
  have hna5 := (Wri_refB_eq a5).2
  by_cases he : e = 0
  · subst he
    simp only [if_true]
    go_enter Try.func6, Try.ntmps6
    go_wp2_with (first | ((with_reducible refine gate_dst (N := 1) rfl ?_); refine box_event ?hg (N := 1) ?hd (cs := #[.int .i64 a0, .slice A l.length c, .int .i64 a2, .int .i64 a3, .int .i64 a4, .int .i64 a5]) (t := 27) ?hr ?_; (case hd => rfl); (case hg => rfl); (case hr => first | (go_simp; done) | (go_simp; rfl)); intro g1 hg1 w1 hb1_ hB1_; have HB := Aside0.mk hB1_; have BK := Aside0.mk hb1_; have hlt1 := blk_lt hb1_; have hge1 : W.heap.size ≤ g1 := (by omega); clear hB1_ hb1_ hg1; have hcz0 := blk_cell BK.out 0; have hfz0 := blk_frozen BK.out 0; have hcz1 := blk_cell BK.out 1; have hfz1 := blk_frozen BK.out 1; have hcz2 := blk_cell BK.out 2; have hfz2 := blk_frozen BK.out 2; have hcz3 := blk_cell BK.out 3; have hfz3 := blk_frozen BK.out 3; have hcz4 := blk_cell BK.out 4; have hfz4 := blk_frozen BK.out 4; have hcz5 := blk_cell BK.out 5; have hfz5 := blk_frozen BK.out 5) | (go_at_call 9; refine (hawserref21_Check.calls 100 _ A c l _ _ _ _ _ _ (Kd.C_below HR.out HB.out) hc HF.out).mono ?_; rintro r w3 ⟨rfl, hB3_⟩; have BK2 := Aside0.mk (blk_below BK.out hB3_); have HB2 := Aside0.mk (HB.out.trans (Wri_below_weak hB3_ HB.out.size)); have hlt2 : g1 < w3.heap.size := (Nat.lt_of_lt_of_le hlt1 hB3_.size); clear hlt1; have hlt1 := hlt2; clear hlt2 HB; have HB := HB2; clear HB2 BK; have BK := BK2; clear BK2; have hcz0 := blk_cell BK.out 0; have hfz0 := blk_frozen BK.out 0; have hcz1 := blk_cell BK.out 1; have hfz1 := blk_frozen BK.out 1; have hcz2 := blk_cell BK.out 2; have hfz2 := blk_frozen BK.out 2; have hcz3 := blk_cell BK.out 3; have hfz3 := blk_frozen BK.out 3; have hcz4 := blk_cell BK.out 4; have hfz4 := blk_frozen BK.out 4; have hcz5 := blk_cell BK.out 5; have hfz5 := blk_frozen BK.out 5; clear hB3_) | ((with_reducible refine gate_dst (N := 12) rfl ?_); refine box_event ?hg (N := 12) ?hd (cs := #[.slice none 0 0, .int .i64 0]) (t := 53) ?hr ?_; (case hd => rfl); (case hg => rfl); (case hr => first | (go_simp; done) | (go_simp; rfl)); intro p hp w2 hb2_ hB2_; have BK2 := Aside0.mk (Wri_blk_low BK.out hB2_ hlt1); have hlt2 : g1 < p := (by omega); have hge2 : W.heap.size ≤ p := (by have := HB.out.size; omega); have HB2 := Aside0.mk (HB.out.trans (Wri_below_weak hB2_ HB.out.size)); clear HB; have HB := HB2; clear HB2 BK; have BK := BK2; clear BK2; have HW := Aside0.mk (Wri_RefW.new hb2_); have hcz0 := blk_cell BK.out 0; have hfz0 := blk_frozen BK.out 0; have hcz1 := blk_cell BK.out 1; have hfz1 := blk_frozen BK.out 1; have hcz2 := blk_cell BK.out 2; have hfz2 := blk_frozen BK.out 2; have hcz3 := blk_cell BK.out 3; have hfz3 := blk_frozen BK.out 3; have hcz4 := blk_cell BK.out 4; have hfz4 := blk_frozen BK.out 4; have hcz5 := blk_cell BK.out 5; have hfz5 := blk_frozen BK.out 5; clear hB2_ hb2_ hp) | (go_at_call 20; refine (Wri_rcfg_calls a0 A c l _ (Kd.C_below HR.out HB.out) hc hl).mono ?_; rintro r w4 ⟨u4, rfl, ho4_, hB4_⟩; obtain ⟨A4, c4, hv4, _⟩ := Wri_own_slice ho4_; subst hv4; have hcv4 := Kd.C_string (P := Try.prog) (c := c4) Try.underlying30 Try.underlying5 Try.underlying9 (Wri_C_own ho4_); have hp9 := HW.out.lt; have BK2 := Aside0.mk (blk_below BK.out hB4_); have HB2 := Aside0.mk (HB.out.trans (Wri_below_weak hB4_ HB.out.size)); have HW2 := Aside0.mk (HW.out.below hB4_); clear HW; have HW := HW2; clear HW2; clear HB; have HB := HB2; clear HB2 BK; have BK := BK2; clear BK2; have hcz0 := blk_cell BK.out 0; have hfz0 := blk_frozen BK.out 0; have hcz1 := blk_cell BK.out 1; have hfz1 := blk_frozen BK.out 1; have hcz2 := blk_cell BK.out 2; have hfz2 := blk_frozen BK.out 2; have hcz3 := blk_cell BK.out 3; have hfz3 := blk_frozen BK.out 3; have hcz4 := blk_cell BK.out 4; have hfz4 := blk_frozen BK.out 4; have hcz5 := blk_cell BK.out 5; have hfz5 := blk_frozen BK.out 5; clear hB4_ ho4_) | (go_at_call 19; refine (Wri_rtext_calls 100 HW.out (strOfNums (Wri_refCfg a0 l)) 1152921504606846976 (Wri_refB ((strOfNums (Wri_refCfg a0 l)).size : Int)) hs1 (by omega) hs2 hs3 (by simp only [List.length_nil]; omega)).mono ?_; rintro r w5 ⟨rfl, h5_, hB5_⟩; have BK2 := Aside0.mk (Wri_blk_low BK.out hB5_ hlt2); have HB2 := Aside0.mk (HB.out.trans (Wri_below_weak hB5_ hge2)); clear HW; have HW := Aside0.mk h5_; clear HB; have HB := HB2; clear HB2 BK; have BK := BK2; clear BK2; have hcz0 := blk_cell BK.out 0; have hfz0 := blk_frozen BK.out 0; have hcz1 := blk_cell BK.out 1; have hfz1 := blk_frozen BK.out 1; have hcz2 := blk_cell BK.out 2; have hfz2 := blk_frozen BK.out 2; have hcz3 := blk_cell BK.out 3; have hfz3 := blk_frozen BK.out 3; have hcz4 := blk_cell BK.out 4; have hfz4 := blk_frozen BK.out 4; have hcz5 := blk_cell BK.out 5; have hfz5 := blk_frozen BK.out 5; clear hB5_ h5_) | (go_at_call_has 21 (IntKind.u64.wrap a2); refine (Wri_ruintB_calls HW.out (IntKind.u64.wrap a2) hwa2.out.1 hwa2.out.2 ?len).mono ?_; (case len => simp only [List.length_append, List.length_nil, Wri_bytesOf_len]; omega); rintro r w5 ⟨rfl, h5_, hB5_⟩; have BK2 := Aside0.mk (Wri_blk_low BK.out hB5_ hlt2); have HB2 := Aside0.mk (HB.out.trans (Wri_below_weak hB5_ hge2)); clear HW; have HW := Aside0.mk h5_; clear HB; have HB := HB2; clear HB2 BK; have BK := BK2; clear BK2; have hcz0 := blk_cell BK.out 0; have hfz0 := blk_frozen BK.out 0; have hcz1 := blk_cell BK.out 1; have hfz1 := blk_frozen BK.out 1; have hcz2 := blk_cell BK.out 2; have hfz2 := blk_frozen BK.out 2; have hcz3 := blk_cell BK.out 3; have hfz3 := blk_frozen BK.out 3; have hcz4 := blk_cell BK.out 4; have hfz4 := blk_frozen BK.out 4; have hcz5 := blk_cell BK.out 5; have hfz5 := blk_frozen BK.out 5; clear hB5_ h5_) | (go_at_call_has 21 (IntKind.u64.wrap a3); refine (Wri_ruintB_calls HW.out (IntKind.u64.wrap a3) hwa3.out.1 hwa3.out.2 ?len).mono ?_; (case len => simp only [List.length_append, List.length_nil, Wri_bytesOf_len]; omega); rintro r w5 ⟨rfl, h5_, hB5_⟩; have BK2 := Aside0.mk (Wri_blk_low BK.out hB5_ hlt2); have HB2 := Aside0.mk (HB.out.trans (Wri_below_weak hB5_ hge2)); clear HW; have HW := Aside0.mk h5_; clear HB; have HB := HB2; clear HB2 BK; have BK := BK2; clear BK2; have hcz0 := blk_cell BK.out 0; have hfz0 := blk_frozen BK.out 0; have hcz1 := blk_cell BK.out 1; have hfz1 := blk_frozen BK.out 1; have hcz2 := blk_cell BK.out 2; have hfz2 := blk_frozen BK.out 2; have hcz3 := blk_cell BK.out 3; have hfz3 := blk_frozen BK.out 3; have hcz4 := blk_cell BK.out 4; have hfz4 := blk_frozen BK.out 4; have hcz5 := blk_cell BK.out 5; have hfz5 := blk_frozen BK.out 5; clear hB5_ h5_) | (go_at_call_has 21 (IntKind.u64.wrap a4); refine (Wri_ruintB_calls HW.out (IntKind.u64.wrap a4) hwa4.out.1 hwa4.out.2 ?len).mono ?_; (case len => simp only [List.length_append, List.length_nil, Wri_bytesOf_len]; omega); rintro r w5 ⟨rfl, h5_, hB5_⟩; have BK2 := Aside0.mk (Wri_blk_low BK.out hB5_ hlt2); have HB2 := Aside0.mk (HB.out.trans (Wri_below_weak hB5_ hge2)); clear HW; have HW := Aside0.mk h5_; clear HB; have HB := HB2; clear HB2 BK; have BK := BK2; clear BK2; have hcz0 := blk_cell BK.out 0; have hfz0 := blk_frozen BK.out 0; have hcz1 := blk_cell BK.out 1; have hfz1 := blk_frozen BK.out 1; have hcz2 := blk_cell BK.out 2; have hfz2 := blk_frozen BK.out 2; have hcz3 := blk_cell BK.out 3; have hfz3 := blk_frozen BK.out 3; have hcz4 := blk_cell BK.out 4; have hfz4 := blk_frozen BK.out 4; have hcz5 := blk_cell BK.out 5; have hfz5 := blk_frozen BK.out 5; clear hB5_ h5_) | (go_at_call_has 21 (IntKind.u64.wrap a5); refine (Wri_ruintB_calls HW.out (IntKind.u64.wrap a5) hwa5.out.1 hwa5.out.2 ?len).mono ?_; (case len => simp only [List.length_append, List.length_nil, Wri_bytesOf_len]; omega); rintro r w5 ⟨rfl, h5_, hB5_⟩; have BK2 := Aside0.mk (Wri_blk_low BK.out hB5_ hlt2); have HB2 := Aside0.mk (HB.out.trans (Wri_below_weak hB5_ hge2)); clear HW; have HW := Aside0.mk h5_; clear HB; have HB := HB2; clear HB2 BK; have BK := BK2; clear BK2; have hcz0 := blk_cell BK.out 0; have hfz0 := blk_frozen BK.out 0; have hcz1 := blk_cell BK.out 1; have hfz1 := blk_frozen BK.out 1; have hcz2 := blk_cell BK.out 2; have hfz2 := blk_frozen BK.out 2; have hcz3 := blk_cell BK.out 3; have hfz3 := blk_frozen BK.out 3; have hcz4 := blk_cell BK.out 4; have hfz4 := blk_frozen BK.out 4; have hcz5 := blk_cell BK.out 5; have hfz5 := blk_frozen BK.out 5; clear hB5_ h5_; obtain ⟨bv, hbp_, hown_⟩ := HW.out.out; have hcp0 := blk_cell hbp_ 0; have hfp0 := blk_frozen hbp_ 0; have HO := Aside0.mk hown_; clear hown_ hbp_) | go_in)
    go_ret2
    exact ⟨_, rfl, Wri_own_lower' HO.out hge2, HB.out⟩
  · simp only [if_neg he]
    go_enter Try.func6, Try.ntmps6
    go_wp2_with (first | ((with_reducible refine gate_dst (N := 1) rfl ?_); refine box_event ?hg (N := 1) ?hd (cs := #[.int .i64 a0, .slice A l.length c, .int .i64 a2, .int .i64 a3, .int .i64 a4, .int .i64 a5]) (t := 27) ?hr ?_; (case hd => rfl); (case hg => rfl); (case hr => first | (go_simp; done) | (go_simp; rfl)); intro g1 hg1 w1 hb1_ hB1_; have HB := Aside0.mk hB1_; have BK := Aside0.mk hb1_; have hlt1 := blk_lt hb1_; have hge1 : W.heap.size ≤ g1 := (by omega); clear hB1_ hb1_ hg1; have hcz0 := blk_cell BK.out 0; have hfz0 := blk_frozen BK.out 0; have hcz1 := blk_cell BK.out 1; have hfz1 := blk_frozen BK.out 1; have hcz2 := blk_cell BK.out 2; have hfz2 := blk_frozen BK.out 2; have hcz3 := blk_cell BK.out 3; have hfz3 := blk_frozen BK.out 3; have hcz4 := blk_cell BK.out 4; have hfz4 := blk_frozen BK.out 4; have hcz5 := blk_cell BK.out 5; have hfz5 := blk_frozen BK.out 5) | (go_at_call 9; refine (hawserref21_Check.calls 100 _ A c l _ _ _ _ _ _ (Kd.C_below HR.out HB.out) hc HF.out).mono ?_; rintro r w3 ⟨rfl, hB3_⟩; have BK2 := Aside0.mk (blk_below BK.out hB3_); have HB2 := Aside0.mk (HB.out.trans (Wri_below_weak hB3_ HB.out.size)); have hlt2 : g1 < w3.heap.size := (Nat.lt_of_lt_of_le hlt1 hB3_.size); clear hlt1; have hlt1 := hlt2; clear hlt2 HB; have HB := HB2; clear HB2 BK; have BK := BK2; clear BK2; have hcz0 := blk_cell BK.out 0; have hfz0 := blk_frozen BK.out 0; have hcz1 := blk_cell BK.out 1; have hfz1 := blk_frozen BK.out 1; have hcz2 := blk_cell BK.out 2; have hfz2 := blk_frozen BK.out 2; have hcz3 := blk_cell BK.out 3; have hfz3 := blk_frozen BK.out 3; have hcz4 := blk_cell BK.out 4; have hfz4 := blk_frozen BK.out 4; have hcz5 := blk_cell BK.out 5; have hfz5 := blk_frozen BK.out 5; clear hB3_) | go_in)
    go_ret2
    exact ⟨_, rfl, ⟨by simp [nums], .inl ⟨rfl, rfl⟩⟩, HB.out⟩

def hawserref21_Encode.f (a0 : Int) (l : List Int) (a2 a3 a4 a5 : Int) : Option (List Int × Int) := if l.length ≤ 1048576 then (hawserref21_Check.f 100 a0 l a2 a3 a4 a5).bind fun e => some (if e = 0 then Wri_refEnc a0 l a2 a3 a4 a5 else [], e) else none
theorem hawserref21_Encode.calls (a0_0 : Int) (A0_1 : Option Addr) (c0_1 : Nat) (l0_1 : List Int) (a0_2 : Int) (a0_3 : Int) (a0_4 : Int) (a0_5 : Int) (r1 : List Int) (r2 : Int) (w : World) (hr0_1 : Kd.C (Kd.int .i64) w A0_1 l0_1.length l0_1) (hc0_1 : l0_1.length ≤ c0_1) (h : hawserref21_Encode.f a0_0 l0_1 a0_2 a0_3 a0_4 a0_5 = some (r1, r2)) :
    Calls Try.prog 6 #[.agg #[.int .i64 a0_0, .slice A0_1 l0_1.length c0_1, .int .i64 a0_2, .int .i64 a0_3, .int .i64 a0_4, .int .i64 a0_5]] w fun e w' => ∃ v0_ : Value, e = .returned (.tuple #[v0_, .int .i64 r2]) ∧ Kd.R (Kd.int .u8) 5 w' w.heap.size (fun _ => True) v0_ r1 ∧ Below w.heap.size w w' := by
  unfold hawserref21_Encode.f at h
  split at h
  · next hl =>
    obtain ⟨e, he, h⟩ := Option.bind_eq_some_iff.1 h
    have h := Option.some.inj h
    rw [Prod.mk.injEq] at h
    obtain ⟨h1, h2⟩ := h
    subst h1 h2
    refine (Wri_renc_calls a0_0 A0_1 c0_1 l0_1 a0_2 a0_3 a0_4 a0_5 e w hr0_1 hc0_1 hl he).mono ?_
    rintro r w' ⟨v, rfl, ho, hB⟩
    exact ⟨v, rfl, Kd.R_of_own ho (fun _ _ => trivial), hB⟩
  · cases h

end Go.Proofs.Ytkkmceejfmjidaa.G
