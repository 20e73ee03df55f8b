-- Written for this claim by a program of this session (wip/xprint.py), by means of the kit's print. Not trusted: Lean checks it.
import Derived.Test.YtkkmceejfmjidaaGx0
import Derived.Test.YtkkmceejfmjidaaGx3
import Derived.Test.YtkkmceejfmjidaaGx12
namespace Go.Proofs.Ytkkmceejfmjidaa.G
open Go.RowKit Go.Proofs.YtkkmceejfmjidaaW.PrintWords Go.Proofs.YtkkmceejfmjidaaW.PrintLast Go.Proofs.YtkkmceejfmjidaaW.PrintMore
attribute [local go_sem] max2_int min2_int max_two min_two max_three min_three max_four min_four   -- for this text's walks alone
set_option linter.unusedVariables false
set_option linter.unusedSimpArgs false

/-! ### master_Encode: function 7 -/
open Go.Proofs.Ytkkmceejfmjidaa.Blocks
/-- A writer of the program's: block p holds its error, which is none, and its bytes, a row of its own. -/
structure Wri_PW (W : World) (base p : Nat) (xs : List Int) : Prop where
  out : ∃ bv, W.heap[p]? = some (.cells #[.int .i64 0, bv] 62 (0, 0)) ∧ W.ownsRow base 5 1 bv xs.length (nums .u8 xs)
  ge : base ≤ p
theorem Wri_PW.lt {W : World} {base p : Nat} {xs : List Int} (h : Wri_PW W base p xs) : p < W.heap.size := by
  obtain ⟨bv, hb, _⟩ := h.out
  exact blk_lt hb
theorem Wri_PW.below {W W' : World} {base p : Nat} {xs : List Int} (h : Wri_PW W base p xs) (hB : Below W.heap.size W W') : Wri_PW W' base p xs := by
  obtain ⟨bv, hb, ho⟩ := h.out
  have hg : W.grownBy W' none := ⟨hB.os, hB.tape, hB.output, hB.size, fun k hk _ => hB.block k hk⟩
  exact ⟨⟨bv, blk_below hb hB, Wri_own_kept ho hg (fun _ _ e => by cases e)⟩, h.ge⟩
theorem Wri_PW.new {W : World} {p : Nat} (h : W.heap[p]? = some (.cells #[.int .i64 0, .slice none 0 0] 62 (0, 0))) : Wri_PW W p p [] :=
  ⟨⟨_, h, by simp [nums], .inl ⟨rfl, rfl⟩⟩, Nat.le_refl _⟩
set_option maxHeartbeats 1000000 in
set_option maxRecDepth 100000 in
theorem Wri_play_calls {W : World} {base p : Nat} {xs : List Int} (h : Wri_PW W base p xs) (ys : List Int) (A : Option Addr) (c : Nat) (hC : Kd.C (Kd.int .u8) W A ys.length ys) (hl : xs.length + ys.length ≤ 140737488355328) :
    Calls Try.prog 45 #[.pointer (some ⟨p, 0, none⟩), .slice A ys.length c] W fun r w' => r = .returned (.tuple #[]) ∧ Wri_PW w' base p (xs ++ ys) ∧ Below base W w' := by
  obtain ⟨bv, hb, ho⟩ := h.out
  have hlt := h.lt
  have hge := h.ge
  have hc0 : W.cell? ⟨p, 0, none⟩ = some (.int .i64 0) := blk_cell hb 0
  have hc1 : W.cell? ⟨p, 1, none⟩ = some bv := blk_cell hb 1
  obtain ⟨Ab, cb, rfl, _⟩ := Wri_own_slice ho
  have HO := Aside0.mk ho
  have HC := Aside0.mk hC
  have HB := Aside0.mk hb
  clear ho hC hb
  go_enter Try.func45, Try.ntmps45
  go_wp2_with (first | ((with_reducible refine gate_builtin (b := .append) (xs := #[.tmp 18, .tmp 19]) rfl ?_); at_builtin; refine Wri_wp_app (base := base) rfl (.tmp 18) (.tmp 19) 30 rfl Try.underlying30 (.slice Ab xs.length cb) xs ys A c ?s_ ?x_ HO.out HC.out hl (by omega) ?_; (case s_ => go_simp); (case x_ => go_simp); intro v1 w1 h1_ h2_ h3_; obtain ⟨A1, c1, hv1, _⟩ := Wri_own_slice h1_; subst hv1; have hb1_ := blk_grown HB.out h2_ (Wri_own_ne HB.out HO.out (by decide)); have hf1 := blk_frozen hb1_ 1; have hd1 := blk_cell hb1_ 1; have h1 := Aside0.mk h1_; have h2 := Aside0.mk h2_; have hb1 := Aside0.mk hb1_; clear h1_ h2_ h3_ hb1_) | go_in)
  go_end0
  refine ⟨rfl, ⟨⟨_, blk_set hb1.out 1 _, ?_⟩, hge⟩, ?_⟩
  · have h9 := own_setCell h1.out (p := ⟨p, 1, none⟩) (Wri_own_ne hb1.out h1.out (by decide)) (.slice A1 (xs ++ ys).length c1)
    simpa only [List.length_append] using h9
  · exact ((Below.refl base W).grown h2.out (by omega) (fun k hk => (World.ownsRow.lt HO.out k hk).1)).setCell hge _
set_option maxHeartbeats 1000000 in
theorem Wri_must_calls {W : World} {base p : Nat} {xs : List Int} (h : Wri_PW W base p xs) (x : Int) :
    Calls Try.prog 43 #[.pointer (some ⟨p, 0, none⟩), .bool true, .int .i64 x] W fun r w' => r = .returned (.bool true) ∧ Wri_PW w' base p xs ∧ Below W.heap.size W w' := by
  obtain ⟨bv, hb, ho⟩ := h.out
  have hge := h.ge
  have hc0 : W.cell? ⟨p, 0, none⟩ = some (.int .i64 0) := blk_cell hb 0
  have H := Aside0.mk h
  clear ho hb h
  go_enter Try.func43, Try.ntmps43
  go_wp2
  go_ret
  exact ⟨rfl, H.out, Below.refl _ _⟩
theorem Wri_or128 (a : Nat) (h : a < 256) : a ||| 128 = a % 128 + 128 := by
  revert a
  decide +kernel
theorem Wri_u8_or128' (x : Int) (h0 : 0 ≤ x) : Go.bits .or .u8 (x % 256) 128 = x % 128 + 128 := by
  have := (bits_nat .u8 8 (by decide) wraps_u8 (x % 256).toNat 128 (by omega) (by decide)).2
  have e : (((x % 256).toNat : Nat) : Int) = x % 256 := by omega
  rw [e] at this
  have h128 : ((128 : Nat) : Int) = 128 := rfl
  rw [h128] at this
  rw [this, Wri_or128 _ (by omega)]
  omega
theorem Wri_put_bytes : ∀ (k : Nat) (v : Int) (x0 r : List Int), 0 ≤ v → v < 18446744073709551616 → x0.length + k < 140737488355328 → hawserref01_Bytes.f k v = some r → leb_put.l0 k x0 v = some (x0 ++ r)
  | 0, v, x0, r, h0, h1, hk, h => by simp [hawserref01_Bytes.f] at h
  | k + 1, v, x0, r, h0, h1, hk, h => by
    rw [hawserref01_Bytes.f] at h
    rw [leb_put.l0]
    by_cases hv : v < 128
    · rw [if_pos hv] at h
      rw [if_neg (by omega), if_pos (by omega)]
      have := Option.some.inj h
      rw [← this]
    · rw [if_neg hv] at h
      rw [if_pos (by omega), if_pos (by omega)]
      have hw : IntKind.u64.wrap (v.tdiv 128) = v / 128 := by
        rw [Int.tdiv_eq_ediv_of_nonneg h0, Wri_wrap_u64_eq]
        omega
      rw [hw] at h
      simp only [Option.bind_some] at h
      obtain ⟨r1, hr1, h⟩ := Option.bind_eq_some_iff.1 h
      split at h
      · have h := Option.some.inj h
        rw [← h, Wri_put_bytes k (v / 128) _ r1 (by omega) (by omega) (by rw [List.length_append, List.length_singleton]; omega) hr1, List.append_assoc]
        have hb : Go.bits .or .u8 (v % 256) 128 = (v.tmod 128 % 256 + 128) % 256 := by
          rw [Wri_u8_or128' v h0, Int.tmod_eq_emod_of_nonneg h0]
          omega
        rw [hb]
      · cases h
theorem Wri_enc_one (v : Int) (h0 : 0 ≤ v) (h1 : v < 18446744073709551616) : leb_Encode.f 101 [v] = some (Wri_refB v) := by
  obtain ⟨hk, hl⟩ := Wri_refB_ok v h0 h1
  have hp := Wri_put_bytes 100 v [] (Wri_refB v) h0 h1 (by simp) hk
  rw [leb_Encode.f, leb_Encode.l0, if_pos (by simp), if_pos (by omega), if_pos (by simp), leb_put.f, show rd [v] 0 = v from rfl, hp, List.nil_append, Option.bind_some]
  rw [show wrap64 (0 + 1) = 1 from by simp [wrap64], leb_Encode.l0, if_neg (by simp)]
set_option maxHeartbeats 1000000 in
set_option maxRecDepth 100000 in
theorem Wri_puint_calls {W : World} {base p : Nat} {xs : List Int} (h : Wri_PW W base p xs) (v : Int) (h0 : 0 ≤ v) (h1 : v < 18446744073709551616) (hl : xs.length ≤ 1099511627776) :
    Calls Try.prog 44 #[.pointer (some ⟨p, 0, none⟩), .int .u64 v] W fun r w' => r = .returned (.tuple #[]) ∧ Wri_PW w' base p (xs ++ Wri_refB v) ∧ Below base W w' := by
  have hlt := h.lt
  have hge := h.ge
  have henc := Wri_enc_one v h0 h1
  have hn := (Wri_refB_ok v h0 h1).2
  have H := Aside0.mk h
  clear h h0 h1
  go_enter Try.func44, Try.ntmps44
  go_wp2_with (first | ((with_reducible refine gate_dst (N := 6) rfl ?_); refine Kd.R_lit (Kd.int .u64) _ 57 ?hg (N := 6) ?hd (xs := ([v] : List Int)) (inner := [.int .u64 v]) (ok := fun _ => True) (okp := fun _ => True) ?hr ?hp (fun _ hk => hk) trivial (Below.refl _ _) (Nat.le_refl _) (by simp) ?_; (case hd => rfl); (case hg => rfl); (case hr => first | (go_simp; done) | (go_simp; rfl)); (case hp => exact (Reps.one (show Kd.M (Kd.int .u64) _ _ _ v [.int .u64 v] from rfl) (Reps.none _ _))); intro v6 w6 ho_ hb_ hg_ hnew_; obtain ⟨A6, c6, hv6⟩ := Kd.R_slice ho_; subst hv6; have HO6 := Aside0.mk ho_; have HB6 := Aside0.mk hb_; clear ho_ hb_ hg_ hnew_) | (go_at_call 42; refine (leb_Encode.calls 101 A6 c6 [v] (Wri_refB v) _ (Kd.R_reads' HO6.out).2.2 (Kd.R_reads' HO6.out).2.1 henc).mono ?_; rintro r w7 ⟨u7, rfl, ho_, hb_⟩; obtain ⟨A7, c7, rfl⟩ := Kd.R_slice ho_; have HB7_ := HB6.out.trans (Wri_below_weak hb_ HB6.out.size); have HO7 := Aside0.mk ho_; have HB7 := Aside0.mk HB7_; have H7 := Aside0.mk (H.out.below HB7_); clear ho_ hb_ HB7_) | (go_at_call 45; refine (Wri_play_calls H7.out (Wri_refB v) A7 c7 (Kd.R_reads' HO7.out).2.2 (by omega)).mono ?_; rintro r w8 ⟨rfl, h8_, hb_⟩; have H8 := Aside0.mk h8_; have HB8 := Aside0.mk hb_; clear h8_ hb_) | go_in)
  go_end0
  exact ⟨rfl, H8.out, (Wri_below_weak HB7.out (by omega)).trans HB8.out⟩
set_option maxHeartbeats 1000000 in
set_option maxRecDepth 100000 in
theorem Wri_pint_calls {W : World} {base p : Nat} {xs : List Int} (h : Wri_PW W base p xs) (v most : Int) (h0 : 0 ≤ v) (hm : v ≤ most) (h1 : most ≤ 9223372036854775807) (hl : xs.length ≤ 1099511627776) :
    Calls Try.prog 24 #[.pointer (some ⟨p, 0, none⟩), .int .i64 v, .int .i64 most] W fun r w' => r = .returned (.tuple #[]) ∧ Wri_PW w' base p (xs ++ Wri_refB v) ∧ Below base W w' := by
  have hge := h.ge
  have hlt := h.lt
  have H := Aside0.mk h
  have HB := Aside0.mk (Below.refl W.heap.size W)
  have h2 : 0 ≤ most := by omega
  have hw : IntKind.u64.wrap v = v := by rw [Wri_wrap_u64_eq]; omega
  have h9 : v < 18446744073709551616 := by omega
  have H9 := Aside0.mk h9
  clear h h9
  go_enter Try.func24, Try.ntmps24
  go_wp2_with (first | (go_at_call 43; refine (Wri_must_calls H.out _).mono ?_; rintro r w7 ⟨rfl, h7_, hb_⟩; have HB7 := Aside0.mk (HB.out.trans (Wri_below_weak hb_ HB.out.size)); clear H HB; have H := Aside0.mk h7_; have HB := HB7; clear h7_ hb_ HB7) | (go_at_call 44; refine (Wri_puint_calls H.out v h0 H9.out hl).mono ?_; rintro r w8 ⟨rfl, h8_, hb_⟩; have H8 := Aside0.mk h8_; have HB8 := Aside0.mk hb_; clear h8_ hb_) | go_in)
  go_end0
  exact ⟨rfl, H8.out, (Wri_below_weak HB.out (by omega)).trans HB8.out⟩
set_option maxHeartbeats 1000000 in
set_option maxRecDepth 100000 in
theorem Wri_ptext_calls {W : World} {base p : Nat} {xs : List Int} (h : Wri_PW W base p xs) (s : ByteArray) (most : Int) (hm : (s.size : Int) ≤ most) (h1 : most ≤ 9223372036854775807) (hsz : s.size ≤ 1099511627776) (hl : xs.length ≤ 1099511627776) :
    Calls Try.prog 23 #[.pointer (some ⟨p, 0, none⟩), .string s, .int .i64 most] W fun r w' => r = .returned (.tuple #[]) ∧ Wri_PW w' base p (xs ++ Wri_refB (s.size : Int) ++ Wri_bytesOf s) ∧ Below base W w' := by
  have hge := h.ge
  have hlt := h.lt
  have H := Aside0.mk h
  have HB := Aside0.mk (Below.refl W.heap.size W)
  have h2 : 0 ≤ most := by omega
  have hbl := Wri_bytesOf_len s
  have hn := (Wri_refB_ok (s.size : Int) (by omega) (by omega)).2
  have hcv := fun (w : World) => Lib.run_convert_string_bytes (P := Try.prog) w 9 30 5 s Try.underlying9 Try.underlying30 Try.underlying5
  clear h
  go_enter Try.func23, Try.ntmps23
  go_wp2_with (first | (go_at_call 43; refine (Wri_must_calls H.out _).mono ?_; rintro r w7 ⟨rfl, h7_, hb_⟩; have HB7 := Aside0.mk (HB.out.trans (Wri_below_weak hb_ HB.out.size)); clear H HB; have H := Aside0.mk h7_; have HB := HB7; clear h7_ hb_ HB7) | (go_at_call 44; refine (Wri_puint_calls H.out (s.size : Int) (by omega) (by omega) hl).mono ?_; rintro r w8 ⟨rfl, h8_, hb_⟩; have HB7 := Aside0.mk ((Wri_below_weak HB.out (by omega : base ≤ W.heap.size)).trans hb_); clear HB; have HB := HB7; clear HB7; have h9_ := Wri_below_bytes w8 5 s; have H8 := Aside0.mk (h8_.below h9_); have hlt8 := h8_.lt; have HB8 := Aside0.mk (HB.out.trans (Wri_below_weak h9_ (by omega : base ≤ w8.heap.size))); clear h8_ hb_ h9_) | (go_at_call 45; have q_ := Wri_play_calls H8.out (Wri_bytesOf s) (some ⟨w8.heap.size, 0, none⟩) (grownCap w8 s.size 0 5) (Wri_C_bytes w8 5 s (by omega)) (by rw [hbl, List.length_append]; omega); rw [hbl] at q_; refine q_.mono ?_; clear q_; rintro r w9 ⟨rfl, h9_, hb9_⟩; have H9 := Aside0.mk h9_; have HB9 := Aside0.mk (HB8.out.trans hb9_); clear h9_ hb9_) | go_in)
  go_end0
  exact ⟨rfl, H9.out, HB9.out⟩
set_option maxHeartbeats 1000000 in
set_option maxRecDepth 100000 in
theorem Wri_pbytes_calls {W : World} {base p : Nat} {xs : List Int} (h : Wri_PW W base p xs) (hl : xs.length ≤ 1099511627776) :
    Calls Try.prog 25 #[.pointer (some ⟨p, 0, none⟩)] W fun r w' => ∃ v, r = .returned (.tuple #[v, .int .i64 0]) ∧ w'.ownsRow W.heap.size 5 1 v xs.length (nums .u8 xs) ∧ Below W.heap.size W w' := by
  obtain ⟨bv, hb, ho⟩ := h.out
  have hlt := h.lt
  have hc0 : W.cell? ⟨p, 0, none⟩ = some (.int .i64 0) := blk_cell hb 0
  have hc1 : W.cell? ⟨p, 1, none⟩ = some bv := blk_cell hb 1
  have hf0 := blk_frozen hb 0
  have hf1 := blk_frozen hb 1
  obtain ⟨Ab, cb, rfl, _⟩ := Wri_own_slice ho
  have HC := Aside0.mk (Wri_C_own ho)
  have hnil : W.ownsRow W.heap.size 5 1 (.slice none 0 0) ([] : List Int).length (nums .u8 []) := ⟨by simp [nums], .inl ⟨rfl, rfl⟩⟩
  have HN := Aside0.mk hnil
  clear ho hb h hnil
  go_enter Try.func25, Try.ntmps25
  go_wp2_with (first | ((with_reducible refine gate_dst (N := 21) rfl ?_); at_builtin; refine Wri_wp_app (base := W.heap.size) rfl (.const (.slice none 0 0)) (.tmp 20) 30 rfl Try.underlying30 (.slice none 0 0) [] xs Ab cb ?s_ ?x_ HN.out HC.out (by simp only [List.length_nil]; omega) (Nat.le_refl _) ?_; (case s_ => go_simp); (case x_ => go_simp); intro v1 w1 h1_ h2_ h3_; have h1 := Aside0.mk h1_; have h2 := Aside0.mk h2_; clear h1_ h2_ h3_) | go_in)
  go_ret2
  refine ⟨_, rfl, h1.out, ?_⟩
  exact (Below.refl _ W).grown h2.out (Nat.le_refl _) (fun k hk => by cases hk)
def Wri_mstEnc (c : List Int) (a2 a3 a4 a5 : Int) : List Int :=
  [] ++ Wri_refB ((strOfNums c).size : Int) ++ Wri_bytesOf (strOfNums c) ++ Wri_refB a2 ++ Wri_refB a3 ++ Wri_refB a4 ++ Wri_refB a5
set_option maxHeartbeats 1000000 in
set_option maxRecDepth 100000 in
theorem Wri_menc_calls (a0 : Int) (A : Option Addr) (c : Nat) (l : List Int) (a2 a3 a4 a5 : Int) (W : World) (hr : Kd.C (Kd.int .i64) W A l.length l) (hc : l.length ≤ c) (hf : master_Check.f a0 l a2 a3 a4 a5 = some 0)
    (r1 : List Int) (he : config_Encode.f 200 a0 l = some (r1, 0)) (hl : r1.length ≤ 64) (h2 : 0 ≤ a2 ∧ a2 ≤ 1152921504606846976) (h3 : 0 ≤ a3 ∧ a3 ≤ 8) (h4 : 0 ≤ a4 ∧ a4 ≤ 1152921504606846976) (h5 : 0 ≤ a5 ∧ a5 ≤ 7) :
    Calls Try.prog 7 #[.agg #[.int .i64 a0, .slice A l.length c, .int .i64 a2, .int .i64 a3, .int .i64 a4, .int .i64 a5]] W fun r w' => ∃ v, r = .returned (.tuple #[v, .int .i64 0]) ∧ w'.ownsRow W.heap.size 5 1 v (Wri_mstEnc r1 a2 a3 a4 a5).length (nums .u8 (Wri_mstEnc r1 a2 a3 a4 a5)) ∧ Below W.heap.size W w' := by
  have HR := Aside0.mk hr
  clear hr
  have HF := Aside0.mk hf
  have HE := Aside0.mk he
  clear hf he
  have hsz := Wri_strOfNums_size' r1
  have hn1 := (Wri_refB_ok ((strOfNums r1).size : Int) (by omega) (by omega)).2
  have hbl := Wri_bytesOf_len (strOfNums r1)
  have hna2 := (Wri_refB_ok a2 (by omega) (by omega)).2
  have hna3 := (Wri_refB_ok a3 (by omega) (by omega)).2
  have hna4 := (Wri_refB_ok a4 (by omega) (by omega)).2
  have hna5 := (Wri_refB_ok a5 (by omega) (by omega)).2
  go_enter Try.func7, Try.ntmps7
  go_wp2_with (first | ((with_reducible refine gate_dst (N := 1) rfl ?_); refine box_event ?hg (N := 1) ?hd (cs := #[.int .i64 a0, .slice A l.length c, .int .i64 a2, .int .i64 a3, .int .i64 a4, .int .i64 a5]) (t := 28) ?hr ?_; (case hd => rfl); (case hg => rfl); (case hr => first | (go_simp; done) | (go_simp; rfl)); intro g1 hg1 w1 hb1_ hB1_; have HB := Aside0.mk hB1_; have BK := Aside0.mk hb1_; have hlt1 := blk_lt hb1_; have hge1 : W.heap.size ≤ g1 := (by omega); clear hB1_ hb1_ hg1; have hcz0 := blk_cell BK.out 0; have hfz0 := blk_frozen BK.out 0; have hcz1 := blk_cell BK.out 1; have hfz1 := blk_frozen BK.out 1; have hcz2 := blk_cell BK.out 2; have hfz2 := blk_frozen BK.out 2; have hcz3 := blk_cell BK.out 3; have hfz3 := blk_frozen BK.out 3; have hcz4 := blk_cell BK.out 4; have hfz4 := blk_frozen BK.out 4; have hcz5 := blk_cell BK.out 5; have hfz5 := blk_frozen BK.out 5) | (go_at_call 8; refine (master_Check.calls _ A c l _ _ _ _ _ _ (Kd.C_below HR.out HB.out) hc HF.out).mono ?_; rintro r w3 ⟨rfl, hB3_⟩; have BK2 := Aside0.mk (blk_below BK.out hB3_); have HB2 := Aside0.mk (HB.out.trans (Wri_below_weak hB3_ HB.out.size)); have hlt2 : g1 < w3.heap.size := (Nat.lt_of_lt_of_le hlt1 hB3_.size); clear hlt1; have hlt1 := hlt2; clear hlt2 HB; have HB := HB2; clear HB2 BK; have BK := BK2; clear BK2; have hcz0 := blk_cell BK.out 0; have hfz0 := blk_frozen BK.out 0; have hcz1 := blk_cell BK.out 1; have hfz1 := blk_frozen BK.out 1; have hcz2 := blk_cell BK.out 2; have hfz2 := blk_frozen BK.out 2; have hcz3 := blk_cell BK.out 3; have hfz3 := blk_frozen BK.out 3; have hcz4 := blk_cell BK.out 4; have hfz4 := blk_frozen BK.out 4; have hcz5 := blk_cell BK.out 5; have hfz5 := blk_frozen BK.out 5; clear hB3_) | (go_at_call 22; refine (config_Encode.calls 200 a0 A c l _ _ _ (Kd.C_below HR.out HB.out) hc HE.out).mono ?_; rintro r w4 ⟨u4, rfl, ho4_, hB4_⟩; obtain ⟨A4, c4, hv4⟩ := Kd.R_slice ho4_; subst hv4; have HO4 := Aside0.mk ho4_; have BK2 := Aside0.mk (blk_below BK.out hB4_); have HB2 := Aside0.mk (HB.out.trans (Wri_below_weak hB4_ HB.out.size)); have hlt2 : g1 < w4.heap.size := (Nat.lt_of_lt_of_le hlt1 hB4_.size); clear hlt1; have hlt1 := hlt2; clear hlt2 HB; have HB := HB2; clear HB2 BK; have BK := BK2; clear BK2; have hcz0 := blk_cell BK.out 0; have hfz0 := blk_frozen BK.out 0; have hcz1 := blk_cell BK.out 1; have hfz1 := blk_frozen BK.out 1; have hcz2 := blk_cell BK.out 2; have hfz2 := blk_frozen BK.out 2; have hcz3 := blk_cell BK.out 3; have hfz3 := blk_frozen BK.out 3; have hcz4 := blk_cell BK.out 4; have hfz4 := blk_frozen BK.out 4; have hcz5 := blk_cell BK.out 5; have hfz5 := blk_frozen BK.out 5; clear hB4_ ho4_) | ((with_reducible refine gate_dst (N := 6) rfl ?_); refine box_event ?hg (N := 6) ?hd (cs := #[.int .i64 0, .slice none 0 0]) (t := 62) ?hr ?_; (case hd => rfl); (case hg => rfl); (case hr => first | (go_simp; done) | (go_simp; rfl)); intro p hp w2 hb2_ hB2_; have BK2 := Aside0.mk (Wri_blk_low BK.out hB2_ hlt1); have hlt2 : g1 < p := (by omega); have hge2 : W.heap.size ≤ p := (by have := HB.out.size; omega); have HB2 := Aside0.mk (HB.out.trans (Wri_below_weak hB2_ HB.out.size)); have HO2 := Aside0.mk (Kd.R_below HO4.out hB2_); have hcv4 := Kd.C_string (P := Try.prog) (c := c4) Try.underlying30 Try.underlying5 Try.underlying9 (Kd.R_reads' HO2.out).2.2; clear HB; have HB := HB2; clear HB2 BK; have BK := BK2; clear BK2; have HW := Aside0.mk (Wri_PW.new hb2_); have hcz0 := blk_cell BK.out 0; have hfz0 := blk_frozen BK.out 0; have hcz1 := blk_cell BK.out 1; have hfz1 := blk_frozen BK.out 1; have hcz2 := blk_cell BK.out 2; have hfz2 := blk_frozen BK.out 2; have hcz3 := blk_cell BK.out 3; have hfz3 := blk_frozen BK.out 3; have hcz4 := blk_cell BK.out 4; have hfz4 := blk_frozen BK.out 4; have hcz5 := blk_cell BK.out 5; have hfz5 := blk_frozen BK.out 5; clear hB2_ hb2_ hp) | (go_at_call 23; refine (Wri_ptext_calls HW.out (strOfNums r1) 64 (by omega) (by omega) (by omega) (by simp only [List.length_nil]; omega)).mono ?_; rintro r w5 ⟨rfl, h5_, hB5_⟩; have BK2 := Aside0.mk (Wri_blk_low BK.out hB5_ hlt2); have HB2 := Aside0.mk (HB.out.trans (Wri_below_weak hB5_ hge2)); clear HW; have HW := Aside0.mk h5_; clear HB; have HB := HB2; clear HB2 BK; have BK := BK2; clear BK2; have hcz0 := blk_cell BK.out 0; have hfz0 := blk_frozen BK.out 0; have hcz1 := blk_cell BK.out 1; have hfz1 := blk_frozen BK.out 1; have hcz2 := blk_cell BK.out 2; have hfz2 := blk_frozen BK.out 2; have hcz3 := blk_cell BK.out 3; have hfz3 := blk_frozen BK.out 3; have hcz4 := blk_cell BK.out 4; have hfz4 := blk_frozen BK.out 4; have hcz5 := blk_cell BK.out 5; have hfz5 := blk_frozen BK.out 5; clear hB5_ h5_) | (go_at_call_has 24 a2; refine (Wri_pint_calls HW.out a2 1152921504606846976 h2.1 h2.2 (by omega) ?len).mono ?_; (case len => simp only [List.length_append, List.length_nil]; omega); rintro r w5 ⟨rfl, h5_, hB5_⟩; have BK2 := Aside0.mk (Wri_blk_low BK.out hB5_ hlt2); have HB2 := Aside0.mk (HB.out.trans (Wri_below_weak hB5_ hge2)); clear HW; have HW := Aside0.mk h5_; clear HB; have HB := HB2; clear HB2 BK; have BK := BK2; clear BK2; have hcz0 := blk_cell BK.out 0; have hfz0 := blk_frozen BK.out 0; have hcz1 := blk_cell BK.out 1; have hfz1 := blk_frozen BK.out 1; have hcz2 := blk_cell BK.out 2; have hfz2 := blk_frozen BK.out 2; have hcz3 := blk_cell BK.out 3; have hfz3 := blk_frozen BK.out 3; have hcz4 := blk_cell BK.out 4; have hfz4 := blk_frozen BK.out 4; have hcz5 := blk_cell BK.out 5; have hfz5 := blk_frozen BK.out 5; clear hB5_ h5_) | (go_at_call_has 24 a3; refine (Wri_pint_calls HW.out a3 8 h3.1 h3.2 (by omega) ?len).mono ?_; (case len => simp only [List.length_append, List.length_nil]; omega); rintro r w5 ⟨rfl, h5_, hB5_⟩; have BK2 := Aside0.mk (Wri_blk_low BK.out hB5_ hlt2); have HB2 := Aside0.mk (HB.out.trans (Wri_below_weak hB5_ hge2)); clear HW; have HW := Aside0.mk h5_; clear HB; have HB := HB2; clear HB2 BK; have BK := BK2; clear BK2; have hcz0 := blk_cell BK.out 0; have hfz0 := blk_frozen BK.out 0; have hcz1 := blk_cell BK.out 1; have hfz1 := blk_frozen BK.out 1; have hcz2 := blk_cell BK.out 2; have hfz2 := blk_frozen BK.out 2; have hcz3 := blk_cell BK.out 3; have hfz3 := blk_frozen BK.out 3; have hcz4 := blk_cell BK.out 4; have hfz4 := blk_frozen BK.out 4; have hcz5 := blk_cell BK.out 5; have hfz5 := blk_frozen BK.out 5; clear hB5_ h5_) | (go_at_call_has 24 a4; refine (Wri_pint_calls HW.out a4 1152921504606846976 h4.1 h4.2 (by omega) ?len).mono ?_; (case len => simp only [List.length_append, List.length_nil]; omega); rintro r w5 ⟨rfl, h5_, hB5_⟩; have BK2 := Aside0.mk (Wri_blk_low BK.out hB5_ hlt2); have HB2 := Aside0.mk (HB.out.trans (Wri_below_weak hB5_ hge2)); clear HW; have HW := Aside0.mk h5_; clear HB; have HB := HB2; clear HB2 BK; have BK := BK2; clear BK2; have hcz0 := blk_cell BK.out 0; have hfz0 := blk_frozen BK.out 0; have hcz1 := blk_cell BK.out 1; have hfz1 := blk_frozen BK.out 1; have hcz2 := blk_cell BK.out 2; have hfz2 := blk_frozen BK.out 2; have hcz3 := blk_cell BK.out 3; have hfz3 := blk_frozen BK.out 3; have hcz4 := blk_cell BK.out 4; have hfz4 := blk_frozen BK.out 4; have hcz5 := blk_cell BK.out 5; have hfz5 := blk_frozen BK.out 5; clear hB5_ h5_) | (go_at_call_has 24 a5; refine (Wri_pint_calls HW.out a5 7 h5.1 h5.2 (by omega) ?len).mono ?_; (case len => simp only [List.length_append, List.length_nil]; omega); rintro r w5 ⟨rfl, h5_, hB5_⟩; have BK2 := Aside0.mk (Wri_blk_low BK.out hB5_ hlt2); have HB2 := Aside0.mk (HB.out.trans (Wri_below_weak hB5_ hge2)); clear HW; have HW := Aside0.mk h5_; clear HB; have HB := HB2; clear HB2 BK; have BK := BK2; clear BK2; have hcz0 := blk_cell BK.out 0; have hfz0 := blk_frozen BK.out 0; have hcz1 := blk_cell BK.out 1; have hfz1 := blk_frozen BK.out 1; have hcz2 := blk_cell BK.out 2; have hfz2 := blk_frozen BK.out 2; have hcz3 := blk_cell BK.out 3; have hfz3 := blk_frozen BK.out 3; have hcz4 := blk_cell BK.out 4; have hfz4 := blk_frozen BK.out 4; have hcz5 := blk_cell BK.out 5; have hfz5 := blk_frozen BK.out 5; clear hB5_ h5_) | (go_at_call 25; have hlp := HW.out.lt; refine (Wri_pbytes_calls HW.out ?len).mono ?_; (case len => simp only [List.length_append, List.length_nil]; omega); rintro r w6 ⟨v6, rfl, ho6_, hB6_⟩; have hge3 := HB.out.size; have HB2 := Aside0.mk (HB.out.trans (Wri_below_weak hB6_ hge3)); clear HB; have HB := HB2; clear HB2; have HO := Aside0.mk ho6_; clear ho6_ hB6_) | go_in)
  go_ret2
  exact ⟨_, rfl, Wri_own_lower' HO.out hge3, HB.out⟩
theorem Wri_menc_bad (a0 : Int) (A : Option Addr) (c : Nat) (l : List Int) (a2 a3 a4 a5 e : Int) (W : World) (hr : Kd.C (Kd.int .i64) W A l.length l) (hc : l.length ≤ c) (hf : master_Check.f a0 l a2 a3 a4 a5 = some e) (hne : e ≠ 0) :
    Calls Try.prog 7 #[.agg #[.int .i64 a0, .slice A l.length c, .int .i64 a2, .int .i64 a3, .int .i64 a4, .int .i64 a5]] W fun r w' => ∃ v, r = .returned (.tuple #[v, .int .i64 e]) ∧ w'.ownsRow W.heap.size 5 1 v ([] : List Int).length (nums .u8 []) ∧ Below W.heap.size W w' := by
  have HR := Aside0.mk hr
  clear hr
  have HF := Aside0.mk hf
  clear hf
  go_enter Try.func7, Try.ntmps7
  go_wp2_with (first | ((with_reducible refine gate_dst (N := 1) rfl ?_); refine box_event ?hg (N := 1) ?hd (cs := #[.int .i64 a0, .slice A l.length c, .int .i64 a2, .int .i64 a3, .int .i64 a4, .int .i64 a5]) (t := 28) ?hr ?_; (case hd => rfl); (case hg => rfl); (case hr => first | (go_simp; done) | (go_simp; rfl)); intro g1 hg1 w1 hb1_ hB1_; have HB := Aside0.mk hB1_; have BK := Aside0.mk hb1_; have hlt1 := blk_lt hb1_; have hge1 : W.heap.size ≤ g1 := (by omega); clear hB1_ hb1_ hg1; have hcz0 := blk_cell BK.out 0; have hfz0 := blk_frozen BK.out 0; have hcz1 := blk_cell BK.out 1; have hfz1 := blk_frozen BK.out 1; have hcz2 := blk_cell BK.out 2; have hfz2 := blk_frozen BK.out 2; have hcz3 := blk_cell BK.out 3; have hfz3 := blk_frozen BK.out 3; have hcz4 := blk_cell BK.out 4; have hfz4 := blk_frozen BK.out 4; have hcz5 := blk_cell BK.out 5; have hfz5 := blk_frozen BK.out 5) | (go_at_call 8; refine (master_Check.calls _ A c l _ _ _ _ _ _ (Kd.C_below HR.out HB.out) hc HF.out).mono ?_; rintro r w3 ⟨rfl, hB3_⟩; have BK2 := Aside0.mk (blk_below BK.out hB3_); have HB2 := Aside0.mk (HB.out.trans (Wri_below_weak hB3_ HB.out.size)); have hlt2 : g1 < w3.heap.size := (Nat.lt_of_lt_of_le hlt1 hB3_.size); clear hlt1; have hlt1 := hlt2; clear hlt2 HB; have HB := HB2; clear HB2 BK; have BK := BK2; clear BK2; have hcz0 := blk_cell BK.out 0; have hfz0 := blk_frozen BK.out 0; have hcz1 := blk_cell BK.out 1; have hfz1 := blk_frozen BK.out 1; have hcz2 := blk_cell BK.out 2; have hfz2 := blk_frozen BK.out 2; have hcz3 := blk_cell BK.out 3; have hfz3 := blk_frozen BK.out 3; have hcz4 := blk_cell BK.out 4; have hfz4 := blk_frozen BK.out 4; have hcz5 := blk_cell BK.out 5; have hfz5 := blk_frozen BK.out 5; clear hB3_) | go_in)
  go_ret2
  exact ⟨_, rfl, ⟨by simp [nums], .inl ⟨rfl, rfl⟩⟩, HB.out⟩

def master_Encode.f (a0 : Int) (l : List Int) (a2 a3 a4 a5 : Int) : Option (List Int × Int) := (master_Check.f a0 l a2 a3 a4 a5).bind fun e => if e = 0 then (config_Encode.f 200 a0 l).bind fun q => if q.2 = 0 ∧ q.1.length ≤ 64 ∧ (0 ≤ a2 ∧ a2 ≤ 1152921504606846976) ∧ (0 ≤ a3 ∧ a3 ≤ 8) ∧ (0 ≤ a4 ∧ a4 ≤ 1152921504606846976) ∧ (0 ≤ a5 ∧ a5 ≤ 7) then some (Wri_mstEnc q.1 a2 a3 a4 a5, 0) else none else some ([], e)
theorem master_Encode.calls (a0_0 : Int) (A0_1 : Option Addr) (c0_1 : Nat) (l0_1 : List Int) (a0_2 : Int) (a0_3 : Int) (a0_4 : Int) (a0_5 : Int) (r1 : List Int) (r2 : Int) (w : World) (hr0_1 : Kd.C (Kd.int .i64) w A0_1 l0_1.length l0_1) (hc0_1 : l0_1.length ≤ c0_1) (h : master_Encode.f a0_0 l0_1 a0_2 a0_3 a0_4 a0_5 = some (r1, r2)) :
    Calls Try.prog 7 #[.agg #[.int .i64 a0_0, .slice A0_1 l0_1.length c0_1, .int .i64 a0_2, .int .i64 a0_3, .int .i64 a0_4, .int .i64 a0_5]] w fun e w' => ∃ v0_ : Value, e = .returned (.tuple #[v0_, .int .i64 r2]) ∧ Kd.R (Kd.int .u8) 5 w' w.heap.size (fun _ => True) v0_ r1 ∧ Below w.heap.size w w' := by
  unfold master_Encode.f at h
  obtain ⟨e, he, h⟩ := Option.bind_eq_some_iff.1 h
  split at h
  · next h0 =>
    subst h0
    obtain ⟨⟨q1, q2⟩, hq, h⟩ := Option.bind_eq_some_iff.1 h
    split at h
    · next hz =>
      obtain ⟨g1, g2, g3, g4, g5, g6⟩ := hz
      simp only at g1 g2
      subst g1
      have h := Option.some.inj h
      rw [Prod.mk.injEq] at h
      obtain ⟨h1, h2⟩ := h
      subst h1 h2
      refine (Wri_menc_calls a0_0 A0_1 c0_1 l0_1 a0_2 a0_3 a0_4 a0_5 w hr0_1 hc0_1 he q1 hq g2 g3 g4 g5 g6).mono ?_
      rintro r w' ⟨v, rfl, ho, hB⟩
      exact ⟨v, rfl, Kd.R_of_own ho (fun _ _ => trivial), hB⟩
    · cases h
  · next h0 =>
    have h := Option.some.inj h
    rw [Prod.mk.injEq] at h
    obtain ⟨h1, h2⟩ := h
    subst h1 h2
    refine (Wri_menc_bad a0_0 A0_1 c0_1 l0_1 a0_2 a0_3 a0_4 a0_5 e w hr0_1 hc0_1 he h0).mono ?_
    rintro r w' ⟨v, rfl, ho, hB⟩
    exact ⟨v, rfl, Kd.R_of_own ho (fun _ _ => trivial), hB⟩

/-! ### hawserref01_Same: function 10 -/
def hawserref01_Same.f (l0 : List Int) (l1 : List Int) : Option (Bool) := some ((strOfNums l0).toList == (strOfNums l1).toList)
set_option maxHeartbeats 8000000 in
set_option maxRecDepth 100000 in
theorem hawserref01_Same.calls (A0 : Option Addr) (c0 : Nat) (l0 : List Int) (A1 : Option Addr) (c1 : Nat) (l1 : List Int) (r : Bool) (w : World) (hr0 : Kd.C (Kd.int .u8) w A0 l0.length l0) (hc0 : l0.length ≤ c0) (hr1 : Kd.C (Kd.int .u8) w A1 l1.length l1) (hc1 : l1.length ≤ c1) (h : hawserref01_Same.f l0 l1 = some r) :
    Calls Try.prog 10 #[.slice A0 l0.length c0, .slice A1 l1.length c1] w fun e w' => e = .returned (.bool r) ∧ Drawn0 w w' := by
  have HR0 := A_ hr0
  have HC0 := A_ hc0
  clear hr0 hc0
  have HR1 := A_ hr1
  have HC1 := A_ hc1
  clear hr1 hc1
  have H : (some ((strOfNums l0).toList == (strOfNums l1).toList)) = some r := h
  clear h
  obtain rfl := Option.some.inj H
  have hcv3 := Kd.C_string (P := Try.prog) (A := A0) (c := c0) Try.underlying30 Try.underlying5 Try.underlying9 HR0.out
  have hcv4 := Kd.C_string (P := Try.prog) (A := A1) (c := c1) Try.underlying30 Try.underlying5 Try.underlying9 HR1.out
  go_enter Try.func10, Try.ntmps10
  go_wp2
  go_ret
  exact ⟨by first | rfl | (simp; done) | (simp [*]; done), by repeat (first | exact Drawn0.refl _ | apply Drawn0.step)⟩

end Go.Proofs.Ytkkmceejfmjidaa.G
