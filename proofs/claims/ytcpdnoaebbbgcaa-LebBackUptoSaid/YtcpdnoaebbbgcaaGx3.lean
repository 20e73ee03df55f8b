-- Written for this claim by a program of this session (wip/xprint.py), by means of the kit's print. Not trusted: Lean checks it.
import Derived.Test.YtcpdnoaebbbgcaaGx0
import Derived.Test.YtcpdnoaebbbgcaaGx1
import Derived.Test.YtcpdnoaebbbgcaaGx2
namespace Go.Proofs.Ytcpdnoaebbbgcaa.G
open Go.RowKit Go.Proofs.YtcpdnoaebbbgcaaW.PrintWords Go.Proofs.YtcpdnoaebbbgcaaW.PrintLast Go.Proofs.YtcpdnoaebbbgcaaW.PrintMore
attribute [local go_sem] max2_int min2_int max_two min_two max_three min_three max_four min_four   -- for this text's walks alone
set_option linter.unusedVariables false
set_option linter.unusedSimpArgs false

/-! ### leb_Skip: function 28 -/
open Go.Proofs.Ytcpdnoaebbbgcaa.Blocks Go.Shelf
theorem leb_told_more (k : Nat) : ∀ (m : Nat) (l : List Int) (at_ : Nat), LeO (leb_told k m l at_) (leb_told k (m + 1) l at_)
  | 0, _, _ => LeO.none _
  | m + 1, l, at_ => by
    rw [leb_told, leb_told]
    refine LeO.ite (LeO.bind (LeO.refl _) fun t => LeO.ite (LeO.ite ?_ (LeO.refl _)) (LeO.refl _)) (LeO.refl _)
    intro r hr
    obtain ⟨r', hr', rfl⟩ := Option.map_eq_some_iff.1 hr
    rw [leb_told_more k m l _ _ hr']
    rfl
theorem leb_told_up (k : Nat) (l : List Int) (at_ : Nat) : LeO (leb_told k k l at_) (leb_told (k + 1) (k + 1) l at_) := fun r h => leb_told_more (k + 1) k l at_ r (leb_told_mono k k l at_ r h)
/-- How many are still to be passed, the place, and whether the loop is left, when some have come. -/
def leb_skipAt (k : Nat) : List (Int × Int) → Int → Int → Option (Bool × Int × Int)
  | [], n, at_ => some (false, n, at_)
  | (p, v) :: r, n, at_ => if n = 0 then some (true, n, at_) else (leb_Size.f k [v]).bind fun s => leb_skipAt k r (wrap64 (n - 1)) (wrap64 (p + s))
theorem leb_skipAt_mono (k : Nat) : ∀ (xs : List (Int × Int)) (n at_ : Int), LeO (leb_skipAt k xs n at_) (leb_skipAt (k + 1) xs n at_)
  | [], _, _ => LeO.refl _
  | (p, v) :: r, n, at_ => by
    unfold leb_skipAt
    exact LeO.ite (LeO.refl _) (LeO.bind (leb_Size.mono _ _) fun s => leb_skipAt_mono k r _ _)
theorem leb_skipAt_append (k : Nat) : ∀ (xs ys : List (Int × Int)) (n at_ n' at' : Int), leb_skipAt k xs n at_ = some (false, n', at') → leb_skipAt k (xs ++ ys) n at_ = leb_skipAt k ys n' at'
  | [], ys, n, at_, n', at', h => by
    simp only [leb_skipAt, Option.some.injEq, Prod.mk.injEq, true_and] at h
    obtain ⟨rfl, rfl⟩ := h
    rfl
  | (p, v) :: r, ys, n, at_, n', at', h => by
    simp only [leb_skipAt, List.cons_append] at h ⊢
    by_cases c : n = 0
    · rw [if_pos c] at h; simp at h
    · rw [if_neg c] at h ⊢
      obtain ⟨s, hs, h⟩ := Option.bind_eq_some_iff.1 h
      rw [hs, Option.bind_some]
      exact leb_skipAt_append k r ys _ _ _ _ h
theorem leb_skipAt_stop (k : Nat) : ∀ (xs ys : List (Int × Int)) (n at_ n' at' : Int), leb_skipAt k xs n at_ = some (true, n', at') → leb_skipAt k (xs ++ ys) n at_ = some (true, n', at')
  | [], ys, n, at_, n', at', h => by simp [leb_skipAt] at h
  | (p, v) :: r, ys, n, at_, n', at', h => by
    simp only [leb_skipAt, List.cons_append] at h ⊢
    by_cases c : n = 0
    · rw [if_pos c] at h ⊢; exact h
    · rw [if_neg c] at h ⊢
      obtain ⟨s, hs, h⟩ := Option.bind_eq_some_iff.1 h
      rw [hs, Option.bind_some]
      exact leb_skipAt_stop k r ys _ _ _ _ h
def leb_Skip.f (k : Nat) (l0 : List Int) (a1 : Int) : Option (Int × Int) :=
  if l0.length ≤ 1099511627776 then (if a1 < 0 then some (0, 1) else (leb_told k k l0 0).bind fun xs => if ∀ x ∈ xs, (leb_Size.f k [x.2]).isSome then (leb_skipAt k xs a1 0).bind fun t =>
    if t.2.1 > 0 then (if 0 ≤ t.2.2 then (if t.2.2 ≤ l0.length then (leb_Decode.f k (l0.drop t.2.2.toNat)).bind fun u => some (0, u.2.2) else none) else none) else some (t.2.2, 0) else none) else none
theorem leb_Skip.mono : ∀ a0 a1 k, LeO (leb_Skip.f k a0 a1) (leb_Skip.f (k + 1) a0 a1) := by
  intro a0 a1 k
  unfold leb_Skip.f
  refine LeO.ite (LeO.ite (LeO.refl _) (LeO.bind (leb_told_up _ _ _) fun xs => ?_)) (LeO.refl _)
  by_cases h : ∀ x ∈ xs, (leb_Size.f k [x.2]).isSome
  · rw [if_pos h, if_pos (fun x hx => by obtain ⟨r, hr⟩ := Option.isSome_iff_exists.1 (h x hx); rw [leb_Size.mono _ _ _ hr]; rfl)]
    exact LeO.bind (leb_skipAt_mono _ _ _ _) fun t => LeO.ite (LeO.ite (LeO.ite (LeO.bind (leb_Decode.mono _ _) fun _ => LeO.refl _) (LeO.refl _)) (LeO.refl _)) (LeO.refl _)
  · rw [if_neg h]
    exact LeO.none _
/-- An element of a list. -/
abbrev leb_In (xs : List (Int × Int)) := { x : Int × Int // x ∈ xs }
theorem leb_attach (xs : List (Int × Int)) : xs.attach.map (fun x : leb_In xs => x.1) = xs := List.attach_map_subtype_val xs

attribute [local go_sem] Oper.semAt_some
abbrev leb_val {xs : List (Int × Int)} (x : leb_In xs) : Int × Int := x.1
def leb_SkI (k : Nat) (a1 : Int) (xs : List (Int × Int)) (w : World) (N : Nat) (done : Bool) (pre : List (leb_In xs)) (W : World) : Prop :=
  ∃ n' at', leb_skipAt k (pre.map leb_val) a1 0 = some (done, n', at') ∧ Boxed W w.heap.size 3 (.int .i64 n') ∧ Boxed W (w.heap.size + 1) 3 (.int .i64 at') ∧ Below w.heap.size w W ∧ N ≤ W.heap.size
theorem leb_SkI_own (k : Nat) (a1 : Int) (xs : List (Int × Int)) (w : World) (N : Nat) (done : Bool) (b : Nat) (hb : w.heap.size + 2 ≤ b) : OwnFrom b (leb_SkI k a1 xs w N done) := by
  rintro s X Y row ⟨n', at', h1, h2, h3, h4, h5⟩ hg hr
  refine ⟨n', at', h1, h2.kept hg ?_, h3.kept hg ?_, h4.grown hg h4.size ?_, Nat.le_trans h5 hg.size⟩
  · intro e; have := (hr _ e.symm).1; omega
  · intro e; have := (hr _ e.symm).1; omega
  · intro j e; have := (hr _ e).1; omega
set_option maxRecDepth 100000 in
set_option maxHeartbeats 4000000 in
theorem leb_Skip.calls (k : Nat) (A0 : Option Addr) (c0 : Nat) (l0 : List Int) (a1 : Int) (r1 : Int) (r2 : Int) (w : World) (hr0 : Kd.C (Kd.int .u8) w A0 l0.length l0) (hc0 : l0.length ≤ c0) (h : leb_Skip.f k l0 a1 = some (r1, r2)) :
    Calls Try.prog 28 #[.slice A0 l0.length c0, .int .i64 a1] w fun e w' => e = .returned (.tuple #[.int .i64 r1, .int .i64 r2]) ∧ Below w.heap.size w w' := by
  have HR0 := Aside0.mk hr0
  have HC0 := Aside0.mk hc0
  clear hr0 hc0
  unfold leb_Skip.f at h
  by_cases hn : l0.length ≤ 1099511627776
  · rw [if_pos hn] at h
    have HN := Aside0.mk hn
    clear hn
    by_cases c1 : a1 < 0
    · rw [if_pos c1] at h
      obtain ⟨rfl, rfl⟩ : (0 : Int) = r1 ∧ (1 : Int) = r2 := by simpa using h
      clear h
      have c1b : decide (a1 < 0) = true := decide_eq_true c1
      go_enter Try.func28, Try.ntmps28
      go_wp2
      go_ret2
      exact ⟨rfl, (Below.refl _ _).alloc (Nat.le_refl _) _⟩
    · rw [if_neg c1] at h
      have c1b : decide (a1 < 0) = false := decide_eq_false c1
      have c1c : decide (0 ≤ a1) = true := decide_eq_true (by omega)
      obtain ⟨xs, A1, h⟩ := Option.bind_eq_some_iff.1 h
      by_cases c2 : ∀ x ∈ xs, (leb_Size.f k [x.2]).isSome
      · rw [if_pos c2] at h
        have HS := Aside0.mk c2
        have HT := Aside0.mk A1
        have H := Aside0.mk h
        clear c2 A1 h c1
        refine (callsIn_wide (n := 10)).1 ?_
        refine callsIn_of_wp_marks Try.func28 rfl trivial ?_ rfl
        simp only [Try.ntmps28, List.size_toArray, List.length_cons, List.length_nil, Nat.reduceAdd, Nat.reduceSub, Array.replicate_succ, Array.replicate_zero, List.push_toArray, List.append_toArray, List.nil_append, List.cons_append]
        gi_wp2_with (refine ⟨trivial, ?_⟩; gi_at_call 26; (with_reducible refine (callsIn_wide.2 (leb_All_calls _ _ l0 _ ?hr HC0.out HN.out)).mono ?_); (case hr => repeat (first | exact HR0.out | (with_reducible refine Kd.C_alloc ?_ _))); rintro e w1 ⟨B, v, rfl, hB, hbx, hv, hb⟩; have GB := Aside0.mk hB; have BX := Aside0.mk hbx; have VV := Aside0.mk hv; have HB := Aside0.mk hb; clear hB hbx hv hb)
        have hsz : ((w.alloc (Obj.cells #[Value.int IntKind.i64 a1] 3)).alloc (Obj.cells #[Value.int IntKind.i64 0] 3)).heap.size = w.heap.size + 2 := by simp
        rw [hsz] at GB VV HB
        have hw1 : w.heap.size + 2 ≤ w1.heap.size := by have := HB.out.size; rw [hsz] at this; exact this
        have hB0 : Below w.heap.size w w1 := ((((Below.refl _ w).alloc (Nat.le_refl _) _).alloc (by simp) _)).trans (HB.out.mono (by omega))
        have hx3 : Boxed w1 w.heap.size 3 (.int .i64 a1) := (HB.out.block _ (by omega)).trans (((Boxed.new w 3 (.int .i64 a1)).alloc _))
        have hx6 : Boxed w1 (w.heap.size + 1) 3 (.int .i64 0) := (HB.out.block _ (by omega)).trans (by have := Boxed.new (w.alloc (Obj.cells #[Value.int IntKind.i64 a1] 3)) 3 (.int .i64 0); rw [World.size_alloc] at this; exact this)
        have hstops := leb_All1_stops (α := leb_In xs) leb_val 9 (by decide) k k B (w.heap.size + 2) _ v l0 HN.out xs.attach w1 BX.out VV.out (by rw [leb_attach]; exact HT.out)
        refine wpIn_rangeFunc_ownF rfl (by decide) (gf := 33) (lb := #[.pointer (some ⟨B, 0, none⟩)]) rfl trivial (enters_of Try.func33 (by kernel_rfl) rfl) hstops leb_Keep.t (leb_Keep.b (Nat.le_refl _)) (Below.refl _ _) (fun _ => rfl)
          (leb_SkI k a1 xs w w1.heap.size false) (fun c pre W => c = .exit 0 ∧ leb_SkI k a1 xs w w1.heap.size true pre W) (leb_SkI_own k a1 xs w w1.heap.size false _ hw1) (fun c s X Y row hs hg hr => ⟨hs.1, leb_SkI_own k a1 xs w w1.heap.size true _ hw1 s X Y row hs.2 hg hr⟩)
          ⟨a1, 0, rfl, hx3, hx6, hB0, Nat.le_refl _⟩
          (fun x => { tmps := #[Value.slice A0 l0.length c0, Value.int IntKind.i64 a1, undef, Value.pointer (some { block := w.heap.size, off := 0 }), Value.int IntKind.i64 0, Value.int IntKind.i64 0, Value.pointer (some { block := w.heap.size + 1, off := 0 }), .int .i64 x.1.1, .int .u64 x.1.2, undef, undef, undef,
              Value.int IntKind.i64 a1, Value.bool false, Value.slice A0 l0.length c0, Value.func (Fn.func 33) #[] #[Value.pointer (some { block := B, off := 0 })], .int .i64 x.1.1, .int .u64 x.1.2, undef, undef, undef, undef, undef, undef, undef, undef, undef, undef, undef, undef, undef, undef, undef, undef, undef, undef, undef, undef, undef], defers := [] }) ?assign ?body ?done ?stop
        case assign =>
          intro l x W K hK
          gi_wp2
          exact hK
        case body =>
          rintro l pre x W ⟨n', at', h1, b3, b6, hBl, hle⟩ _
          have hc3 := b3.cell
          have hf3 := b3.frozen
          have hc6 := b6.cell
          have hf6 := b6.frozen
          have HB3 := Aside0.mk b3
          have HB6 := Aside0.mk b6
          have HBL := Aside0.mk hBl
          have H1 := Aside0.mk h1
          clear b3 b6 hBl h1 hx3 hx6 hB0 hstops hw1 hsz h c1b c1c
          by_cases c : n' = 0
          · have cb : (n' == 0) = true := beq_iff_eq.2 c
            gi_wp2
            refine ⟨KeepsOthers.refl _, rfl, n', at', ?_, HB3.out, HB6.out, HBL.out, hle⟩
            rw [List.map_append, leb_skipAt_append k _ _ _ _ _ _ H1.out]
            show leb_skipAt k [(x.1.1, x.1.2)] n' at' = _
            simp only [leb_skipAt]
            rw [if_pos c]
          · have cb : (n' == 0) = false := beq_eq_false_iff_ne.2 c
            obtain ⟨s, hs⟩ := Option.isSome_iff_exists.1 (HS.out x.1 x.2)
            have HSS := Aside0.mk hs
            clear hs
            have hr : Kd.C (Kd.int .u64) ((W.setCell ⟨w.heap.size, 0, none⟩ (.int .i64 (wrap64 (n' - 1)))).alloc (.cells #[.int .u64 x.1.2] 22)) (some ⟨W.heap.size, 0, none⟩) 1 [x.1.2] := by
              have hb := World.alloc_heap_new (W.setCell ⟨w.heap.size, 0, none⟩ (.int .i64 (wrap64 (n' - 1)))) (.cells #[.int .u64 x.1.2] 22)
              have hs : (W.setCell ⟨w.heap.size, 0, none⟩ (.int .i64 (wrap64 (n' - 1)))).heap.size = W.heap.size := by simp
              rw [hs] at hb
              exact C_of_blk (L := [x.1.2]) (o := 0) (n := 1) hb (by simp) (by simp)
            have HR2 := Aside0.mk hr
            clear hr
            gi_wp2_with (refine ⟨trivial, ?_⟩; gi_at_call 15; refine ((CallsIn.inRound l (callsIn_wide.2 (leb_Size.calls k _ 1 [x.1.2] s _ HR2.out (Nat.le_refl 1) HSS.out)))).mono ?_; rintro e w' ⟨rfl, ⟨nd, rfl⟩⟩; have hb6 : Boxed (((W.setCell ⟨w.heap.size, 0, none⟩ (.int .i64 (wrap64 (n' - 1)))).alloc (.cells #[.int .u64 x.1.2] 22)).drewN nd) (w.heap.size + 1) 3 (.int .i64 at') := by { have := (HB6.out.other (B' := w.heap.size) (by omega) (.int .i64 (wrap64 (n' - 1)))).alloc (.cells #[.int .u64 x.1.2] 22); unfold Boxed at this ⊢; simpa using this }; have hc6' := hb6.cell; have hf6' := hb6.frozen; have HB6' := Aside0.mk hb6; clear hb6)
            refine ⟨?_, ?_, wrap64 (n' - 1), wrap64 (x.1.1 + s), ?_, ?_, HB6'.out.set _, ?_, ?_⟩
            · exact (((KeepsOthers.setCell _ _ _).trans (KeepsOthers.alloc _ _)).trans ⟨by simp, fun k o hk _ => by simpa using hk⟩).trans (KeepsOthers.setCell _ _ _)
            · rintro k hk hlt
              have h3 : k ≠ w.heap.size := by have := GB.out; rcases hk with rfl | hk <;> omega
              have h6 : k ≠ w.heap.size + 1 := by have := GB.out; rcases hk with rfl | hk <;> omega
              rw [Below.heap_setCell _ _ _ _ h6]
              show ((W.setCell ⟨w.heap.size, 0, none⟩ (.int .i64 (wrap64 (n' - 1)))).alloc (.cells #[.int .u64 x.1.2] 22)).heap[k]? = _
              exact (Below.heap_alloc _ _ _ (by simp; omega)).trans (Below.heap_setCell W ⟨w.heap.size, 0, none⟩ _ k h3)
            · rw [List.map_append, leb_skipAt_append k _ _ _ _ _ _ H1.out]
              show leb_skipAt k [(x.1.1, x.1.2)] n' at' = _
              simp only [leb_skipAt]
              rw [if_neg c, HSS.out]
              rfl
            · have := ((HB3.out.set (.int .i64 (wrap64 (n' - 1)))).alloc (.cells #[.int .u64 x.1.2] 22))
              refine Boxed.other (B' := w.heap.size + 1) (show Boxed (World.drewN _ nd) _ _ _ from ?_) (by omega) _
              unfold Boxed at this ⊢
              simpa using this
            · refine (pw_below_drewN ((HBL.out.setCell (p := ⟨w.heap.size, 0, none⟩) (Nat.le_refl _) _).alloc ?_ _) nd).setCell (p := ⟨w.heap.size + 1, 0, none⟩) (by simp) _
              have := HBL.out.size
              simpa using this
            · simp; omega
        case done =>
          rintro D ys W hD rfl ⟨n', at', h1, b3, b6, hBl, hle⟩ hK
          replace h1 : leb_skipAt k xs a1 0 = some (false, n', at') := by have := h1; rwa [show xs.attach.map leb_val = xs from leb_attach xs] at this
          have hc3 := b3.cell
          have hc6 := b6.cell
          have HB3 := Aside0.mk b3
          have HB6 := Aside0.mk b6
          have HBL := Aside0.mk hBl
          have HK := Aside0.mk hK
          have HD := Aside0.mk (show w.heap.size ≤ D by omega)
          have HH := H.out
          rw [h1, Option.bind_some] at HH
          replace HH : (if n' > 0 then (if 0 ≤ at' then (if at' ≤ l0.length then (leb_Decode.f k (l0.drop at'.toNat)).bind fun u => some (0, u.2.2) else none) else none) else some (at', 0)) = some (r1, r2) := HH
          clear b3 b6 hBl hK h1 hx3 hx6 hB0 hstops hsz h c1b c1c H hw1 hle hD
          by_cases c : n' > 0
          · rw [if_pos c] at HH
            have cb : decide (0 < n') = true := decide_eq_true c
            by_cases c2 : 0 ≤ at'
            · rw [if_pos c2] at HH
              by_cases c3 : at' ≤ l0.length
              · rw [if_pos c3] at HH
                obtain ⟨⟨t1, t2, t3⟩, A1, HH⟩ := Option.bind_eq_some_iff.1 HH
                obtain ⟨rfl, rfl⟩ : (0 : Int) = r1 ∧ t3 = r2 := by simpa using HH
                have AD := Aside0.mk A1
                obtain ⟨i07, hi07, _, hsz7, _⟩ := info_parts (show (Try.prog.info? 5).map (fun i => (i.zero, i.size, i.bytes)) = some (some (.int .u8 0), 1, 1) by kernel_rfl)
                obtain ⟨A7, hcut7, hA7, hC7⟩ := print_drop_of (P := Try.prog) (Value.int .u8) 0 32 5 .i64 Try.underlying32 hi07 hsz7 A0 c0 l0 at' c2 c3 HC0.out
                have HR := Aside0.mk (show Kd.C (Kd.int .u8) w A7 (l0.drop at'.toNat).length (l0.drop at'.toNat) from Kd.C_of_reads (h1 := fun _ => rfl) (hA7 _ (Kd.reads_of_C HR0.out)))
                have HC7 := Aside0.mk hC7
                clear hA7 hC7 hi07 hsz7 A1 HH c c2 c3
                gi_wp2_with (refine ⟨trivial, ?_⟩; gi_at_call 19; (try rw [← List.length_drop]); (with_reducible refine (callsIn_wide.2 (leb_Decode.calls k _ _ (l0.drop at'.toNat) t1 t2 t3 _ (Kd.C_below HR.out HBL.out) HC7.out AD.out)).mono ?_); rintro e w' ⟨rfl, ⟨nd, rfl⟩⟩)
                refine ⟨by simp, .inl ⟨_, _, rfl, run_takeDeferred (show (W.drewN nd).heap[D]? = _ by simpa using HK.out), ?_⟩⟩
                refine ⟨.tuple #[.int .i64 0, .int .i64 t3], by simp [results, Try.f28, go_sem], rfl, ?_⟩
                exact (pw_below_drewN HBL.out nd).trans (belowK_b (w := w) (Nat.le_refl _) (W.drewN nd) D _ _ HD.out (show (W.drewN nd).heap[D]? = _ by simpa using HK.out) rfl rfl)
              · rw [if_neg c3] at HH; cases HH
            · rw [if_neg c2] at HH; cases HH
          · rw [if_neg c] at HH
            have cb : decide (0 < n') = false := decide_eq_false c
            obtain ⟨rfl, rfl⟩ : at' = r1 ∧ (0 : Int) = r2 := by simpa using HH
            clear HH
            gi_wp2
            refine ⟨by simp, .inl ⟨_, _, rfl, run_takeDeferred HK.out, ?_⟩⟩
            refine ⟨.tuple #[.int .i64 at', .int .i64 0], by simp [results, Try.f28, go_sem], rfl, ?_⟩
            exact HBL.out.trans (belowK_b (w := w) (Nat.le_refl _) W D _ _ HD.out HK.out rfl rfl)
        case stop =>
          rintro D c pre W hD hpre ⟨rfl, n', at', h1, b3, b6, hBl, hle⟩ hK
          replace h1 : leb_skipAt k xs a1 0 = some (true, n', at') := by
            obtain ⟨q, hq⟩ := hpre
            have := leb_skipAt_stop k _ (q.map leb_val) _ _ _ _ h1
            rwa [← List.map_append, hq, show xs.attach.map leb_val = xs from leb_attach xs] at this
          have hc3 := b3.cell
          have hc6 := b6.cell
          have HB3 := Aside0.mk b3
          have HB6 := Aside0.mk b6
          have HBL := Aside0.mk hBl
          have HK := Aside0.mk hK
          have HD := Aside0.mk (show w.heap.size ≤ D by omega)
          have HH := H.out
          rw [h1, Option.bind_some] at HH
          replace HH : (if n' > 0 then (if 0 ≤ at' then (if at' ≤ l0.length then (leb_Decode.f k (l0.drop at'.toNat)).bind fun u => some (0, u.2.2) else none) else none) else some (at', 0)) = some (r1, r2) := HH
          clear b3 b6 hBl hK h1 hx3 hx6 hB0 hstops hsz h c1b c1c H hw1 hle hD
          by_cases c : n' > 0
          · rw [if_pos c] at HH
            have cb : decide (0 < n') = true := decide_eq_true c
            by_cases c2 : 0 ≤ at'
            · rw [if_pos c2] at HH
              by_cases c3 : at' ≤ l0.length
              · rw [if_pos c3] at HH
                obtain ⟨⟨t1, t2, t3⟩, A1, HH⟩ := Option.bind_eq_some_iff.1 HH
                obtain ⟨rfl, rfl⟩ : (0 : Int) = r1 ∧ t3 = r2 := by simpa using HH
                have AD := Aside0.mk A1
                obtain ⟨i07, hi07, _, hsz7, _⟩ := info_parts (show (Try.prog.info? 5).map (fun i => (i.zero, i.size, i.bytes)) = some (some (.int .u8 0), 1, 1) by kernel_rfl)
                obtain ⟨A7, hcut7, hA7, hC7⟩ := print_drop_of (P := Try.prog) (Value.int .u8) 0 32 5 .i64 Try.underlying32 hi07 hsz7 A0 c0 l0 at' c2 c3 HC0.out
                have HR := Aside0.mk (show Kd.C (Kd.int .u8) w A7 (l0.drop at'.toNat).length (l0.drop at'.toNat) from Kd.C_of_reads (h1 := fun _ => rfl) (hA7 _ (Kd.reads_of_C HR0.out)))
                have HC7 := Aside0.mk hC7
                clear hA7 hC7 hi07 hsz7 A1 HH c c2 c3
                gi_wp2_with (refine ⟨trivial, ?_⟩; gi_at_call 19; (try rw [← List.length_drop]); (with_reducible refine (callsIn_wide.2 (leb_Decode.calls k _ _ (l0.drop at'.toNat) t1 t2 t3 _ (Kd.C_below HR.out HBL.out) HC7.out AD.out)).mono ?_); rintro e w' ⟨rfl, ⟨nd, rfl⟩⟩)
                refine ⟨by simp, .inl ⟨_, _, rfl, run_takeDeferred (show (W.drewN nd).heap[D]? = _ by simpa using HK.out), ?_⟩⟩
                refine ⟨.tuple #[.int .i64 0, .int .i64 t3], by simp [results, Try.f28, go_sem], rfl, ?_⟩
                exact (pw_below_drewN HBL.out nd).trans (belowK_b (w := w) (Nat.le_refl _) (W.drewN nd) D _ _ HD.out (show (W.drewN nd).heap[D]? = _ by simpa using HK.out) rfl rfl)
              · rw [if_neg c3] at HH; cases HH
            · rw [if_neg c2] at HH; cases HH
          · rw [if_neg c] at HH
            have cb : decide (0 < n') = false := decide_eq_false c
            obtain ⟨rfl, rfl⟩ : at' = r1 ∧ (0 : Int) = r2 := by simpa using HH
            clear HH
            gi_wp2
            refine ⟨by simp, .inl ⟨_, _, rfl, run_takeDeferred HK.out, ?_⟩⟩
            refine ⟨.tuple #[.int .i64 at', .int .i64 0], by simp [results, Try.f28, go_sem], rfl, ?_⟩
            exact HBL.out.trans (belowK_b (w := w) (Nat.le_refl _) W D _ _ HD.out HK.out rfl rfl)
      · rw [if_neg c2] at h; cases h
  · rw [if_neg hn] at h; cases h

end Go.Proofs.Ytcpdnoaebbbgcaa.G
