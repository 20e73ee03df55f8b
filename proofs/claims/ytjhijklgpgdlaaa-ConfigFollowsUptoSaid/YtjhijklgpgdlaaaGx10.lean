-- Written for this claim by a program of this session (wip/xprint.py), by means of the kit's print. Not trusted: Lean checks it.
import Derived.Test.YtjhijklgpgdlaaaGx0
import Derived.Test.YtjhijklgpgdlaaaGx1
import Derived.Test.YtjhijklgpgdlaaaGx2
import Derived.Test.YtjhijklgpgdlaaaGx4
import Derived.Test.YtjhijklgpgdlaaaGx5
import Derived.Test.YtjhijklgpgdlaaaGx9
namespace Go.Proofs.Ytjhijklgpgdlaaa.G
open Go.RowKit Go.Proofs.YtjhijklgpgdlaaaW.PrintWords Go.Proofs.YtjhijklgpgdlaaaW.PrintLast Go.Proofs.YtjhijklgpgdlaaaW.PrintMore
attribute [local go_sem] max2_int min2_int max_two min_two max_three min_three max_four min_four   -- for this text's walks alone
set_option linter.unusedVariables false
set_option linter.unusedSimpArgs false

/-! ### hawserlaw16_ConfigFollows: function 7 -/
def hawserlaw16_ConfigFollows.f (k : Nat) (a0_0 : Int) (l0_1 : List Int) (a1_0 : Int) (l1_1 : List Int) : Option (Bool) := (hawserlaw16_twin.f a0_0 l0_1).bind fun bt210 => ((hawserlaw16_twin.f a1_0 l1_1).bind fun bt214 => ((config_Follows.f k bt210.1 bt210.2 bt214.1 bt214.2).bind fun t220 => ((config_Alike.f k bt210.1 bt210.2 bt214.1 bt214.2).bind fun t221 => ((config_Follows.f k 1 (([5] : List Int)) 2 (([5, 6] : List Int))).bind fun t228 => ((hawserlaw16_plain.f a0_0 l0_1).bind fun bt229 => ((hawserlaw16_plain.f a1_0 l1_1).bind fun bt233 => ((hawserref16_Follows.f k bt229.1 bt229.2 bt233.1 bt233.2).bind fun t237 => (if (t220 == t237) = true then ((hawserlaw16_plain.f a0_0 l0_1).bind fun bt238 => ((hawserlaw16_plain.f a1_0 l1_1).bind fun bt242 => ((hawserref16_Alike.f k bt238.1 bt238.2 bt242.1 bt242.2).bind fun t246 => (if (t221 == t246) = true then ((hawserlaw16_kept.f k bt210.1 bt210.2 a0_0 l0_1).bind fun t247 => (if t247 = true then ((hawserlaw16_kept.f k bt214.1 bt214.2 a1_0 l1_1).bind fun t248 => (if t248 = true then (some t228) else (none))) else (none))) else (none))))) else (none)))))))))
theorem hawserlaw16_ConfigFollows.mono : ∀ a0 a1 a2 a3 k, LeO (hawserlaw16_ConfigFollows.f k a0 a1 a2 a3) (hawserlaw16_ConfigFollows.f (k + 1) a0 a1 a2 a3) := by
  intro a0 a1 a2 a3 k
  unfold hawserlaw16_ConfigFollows.f
  repeat' first
      | (with_reducible exact config_Alike.mono _ _ _ _ _)
      | (with_reducible exact config_Follows.mono _ _ _ _ _)
      | (with_reducible exact hawserlaw16_kept.mono _ _ _ _ _)
      | (with_reducible exact hawserref16_Alike.mono _ _ _ _ _)
      | (with_reducible exact hawserref16_Follows.mono _ _ _ _ _)
      | (with_reducible exact LeO.refl _)
      | (with_reducible exact LeO.none _)
      | (with_reducible refine LeO.ite ?_ ?_)
      | (with_reducible refine LeO.bind ?_ (fun _ => ?_))
      | exact config_Alike.mono _ _ _ _ _
      | exact config_Follows.mono _ _ _ _ _
      | exact hawserlaw16_kept.mono _ _ _ _ _
      | exact hawserref16_Alike.mono _ _ _ _ _
      | exact hawserref16_Follows.mono _ _ _ _ _
      | exact LeO.none _
      | refine LeO.ite ?_ ?_
      | refine LeO.bind ?_ (fun _ => ?_)
def hawserlaw16_ConfigFollows.T1 : Bool × List (List Nat × List Nat) := (true, [([], []), ([0], [0]), ([], []), ([2, 1], [2]), ([], []), ([], []), ([4, 1, 3, 0, 1, 4, 5], [1, 4]), ([5, 3, 6, 0, 1, 2, 3, 4, 5, 6], [3, 5])])
def hawserlaw16_ConfigFollows.B1 : List Nat := [0, 1, 0, 7, 0, 0, 63, 127]
theorem hawserlaw16_ConfigFollows.tab1 : rtab .any (opsOf Try.f7 1) = hawserlaw16_ConfigFollows.T1 := by kernel_rfl
theorem hawserlaw16_ConfigFollows.bits1 : waitsOk hawserlaw16_ConfigFollows.T1.2 hawserlaw16_ConfigFollows.B1 = true := by kernel_rfl
def hawserlaw16_ConfigFollows.T2 : Bool × List (List Nat × List Nat) := (true, [([], []), ([], []), ([0, 1], [0, 1]), ([], []), ([], []), ([3, 4, 2], [3, 4]), ([2, 5, 0, 1, 2], [2]), ([5, 6, 0, 1, 2, 3, 4, 5, 6], [5])])
def hawserlaw16_ConfigFollows.B2 : List Nat := [0, 0, 3, 0, 0, 31, 63, 127]
theorem hawserlaw16_ConfigFollows.tab2 : rtab .any (opsOf Try.f7 2) = hawserlaw16_ConfigFollows.T2 := by kernel_rfl
theorem hawserlaw16_ConfigFollows.bits2 : waitsOk hawserlaw16_ConfigFollows.T2.2 hawserlaw16_ConfigFollows.B2 = true := by kernel_rfl
def hawserlaw16_ConfigFollows.T4 : Bool × List (List Nat × List Nat) := (true, [([], []), ([], []), ([1], [1]), ([], []), ([3, 2], [3]), ([2, 4, 4], [2, 4]), ([0, 5], [0, 5]), ([6, 5], [6]), ([7], [7]), ([7], [7]), ([9, 7, 7], [7, 9]), ([7], [7]), ([11, 10, 7], [7, 11]), ([10, 12, 12, 7], [7, 10, 12]), ([8, 13, 7], [7, 8, 13]), ([7, 14], [7, 14]), ([15, 13], [15]), ([16], [16]), ([16], [16]), ([17, 18, 16, 16], [16, 17, 18]), ([16, 19], [16, 19]), ([20, 19], [20]), ([21], [21]), ([21], [21]), ([22, 23, 21, 21], [21, 22, 23]), ([21, 24], [21, 24]), ([25, 24], [25]), ([26], [26]), ([26, 27], [26, 27]), ([28, 26, 0, 1, 2, 3, 4, 5, 6, 7, 8, 9, 10, 11, 12, 13, 14, 15, 16, 17, 18, 19, 20, 21, 22, 23, 24, 25, 26, 27, 28], [28])])
def hawserlaw16_ConfigFollows.B4 : List Nat := [0, 0, 2, 0, 14, 30, 63, 127, 255, 255, 767, 255, 3839, 7935, 16383, 32767, 65535, 131071, 131071, 524287, 1048575, 2097151, 4194303, 4194303, 16777215, 33554431, 67108863, 134217727, 268435455, 536870911]
theorem hawserlaw16_ConfigFollows.tab4 : rtab .any (opsOf Try.f7 4) = hawserlaw16_ConfigFollows.T4 := by kernel_rfl
theorem hawserlaw16_ConfigFollows.bits4 : waitsOk hawserlaw16_ConfigFollows.T4.2 hawserlaw16_ConfigFollows.B4 = true := by kernel_rfl
set_option maxHeartbeats 8000000 in
set_option maxRecDepth 100000 in
theorem hawserlaw16_ConfigFollows.calls (k : Nat) (a0_0 : Int) (A0_1 : Option Addr) (c0_1 : Nat) (l0_1 : List Int) (a1_0 : Int) (A1_1 : Option Addr) (c1_1 : Nat) (l1_1 : List Int) (r : Bool) (w : World) (hr0_1 : Kd.C (Kd.int .i64) w A0_1 l0_1.length l0_1) (hc0_1 : l0_1.length ≤ c0_1) (hr1_1 : Kd.C (Kd.int .i64) w A1_1 l1_1.length l1_1) (hc1_1 : l1_1.length ≤ c1_1) (h : hawserlaw16_ConfigFollows.f k a0_0 l0_1 a1_0 l1_1 = some r) :
    Calls Try.prog 7 #[.agg #[.int .i64 a0_0, .slice A0_1 l0_1.length c0_1], .agg #[.int .i64 a1_0, .slice A1_1 l1_1.length c1_1]] w fun e w' => e = .returned (.bool r) ∧ Below w.heap.size w w' := by
  have hu32 := Try.underlying32
  have HR0_1 := A_ hr0_1
  have HC0_1 := A_ hc0_1
  clear hr0_1 hc0_1
  have HR1_1 := A_ hr1_1
  have HC1_1 := A_ hc1_1
  clear hr1_1 hc1_1
  have HB := A_ (Below.refl w.heap.size w)
  have H : ((hawserlaw16_twin.f a0_0 l0_1).bind fun bt210 => ((hawserlaw16_twin.f a1_0 l1_1).bind fun bt214 => ((config_Follows.f k bt210.1 bt210.2 bt214.1 bt214.2).bind fun t220 => ((config_Alike.f k bt210.1 bt210.2 bt214.1 bt214.2).bind fun t221 => ((config_Follows.f k 1 (([5] : List Int)) 2 (([5, 6] : List Int))).bind fun t228 => ((hawserlaw16_plain.f a0_0 l0_1).bind fun bt229 => ((hawserlaw16_plain.f a1_0 l1_1).bind fun bt233 => ((hawserref16_Follows.f k bt229.1 bt229.2 bt233.1 bt233.2).bind fun t237 => (if (t220 == t237) = true then ((hawserlaw16_plain.f a0_0 l0_1).bind fun bt238 => ((hawserlaw16_plain.f a1_0 l1_1).bind fun bt242 => ((hawserref16_Alike.f k bt238.1 bt238.2 bt242.1 bt242.2).bind fun t246 => (if (t221 == t246) = true then ((hawserlaw16_kept.f k bt210.1 bt210.2 a0_0 l0_1).bind fun t247 => (if t247 = true then ((hawserlaw16_kept.f k bt214.1 bt214.2 a1_0 l1_1).bind fun t248 => (if t248 = true then (some t228) else (none))) else (none))) else (none))))) else (none)))))))))) = some r := h
  clear h
  replace H := Option.bind_eq_some_iff.mp H
  obtain ⟨⟨t210, t211⟩, A30, H⟩ := H
  replace H : ((hawserlaw16_twin.f a1_0 l1_1).bind fun bt214 => ((config_Follows.f k t210 t211 bt214.1 bt214.2).bind fun t220 => ((config_Alike.f k t210 t211 bt214.1 bt214.2).bind fun t221 => ((config_Follows.f k 1 (([5] : List Int)) 2 (([5, 6] : List Int))).bind fun t228 => ((hawserlaw16_plain.f a0_0 l0_1).bind fun bt229 => ((hawserlaw16_plain.f a1_0 l1_1).bind fun bt233 => ((hawserref16_Follows.f k bt229.1 bt229.2 bt233.1 bt233.2).bind fun t237 => (if (t220 == t237) = true then ((hawserlaw16_plain.f a0_0 l0_1).bind fun bt238 => ((hawserlaw16_plain.f a1_0 l1_1).bind fun bt242 => ((hawserref16_Alike.f k bt238.1 bt238.2 bt242.1 bt242.2).bind fun t246 => (if (t221 == t246) = true then ((hawserlaw16_kept.f k t210 t211 a0_0 l0_1).bind fun t247 => (if t247 = true then ((hawserlaw16_kept.f k bt214.1 bt214.2 a1_0 l1_1).bind fun t248 => (if t248 = true then (some t228) else (none))) else (none))) else (none))))) else (none))))))))) = some r := H
  have A3 := A_ A30
  clear A30
  replace H := Option.bind_eq_some_iff.mp H
  obtain ⟨⟨t214, t215⟩, A40, H⟩ := H
  replace H : ((config_Follows.f k t210 t211 t214 t215).bind fun t220 => ((config_Alike.f k t210 t211 t214 t215).bind fun t221 => ((config_Follows.f k 1 (([5] : List Int)) 2 (([5, 6] : List Int))).bind fun t228 => ((hawserlaw16_plain.f a0_0 l0_1).bind fun bt229 => ((hawserlaw16_plain.f a1_0 l1_1).bind fun bt233 => ((hawserref16_Follows.f k bt229.1 bt229.2 bt233.1 bt233.2).bind fun t237 => (if (t220 == t237) = true then ((hawserlaw16_plain.f a0_0 l0_1).bind fun bt238 => ((hawserlaw16_plain.f a1_0 l1_1).bind fun bt242 => ((hawserref16_Alike.f k bt238.1 bt238.2 bt242.1 bt242.2).bind fun t246 => (if (t221 == t246) = true then ((hawserlaw16_kept.f k t210 t211 a0_0 l0_1).bind fun t247 => (if t247 = true then ((hawserlaw16_kept.f k t214 t215 a1_0 l1_1).bind fun t248 => (if t248 = true then (some t228) else (none))) else (none))) else (none))))) else (none)))))))) = some r := H
  have A4 := A_ A40
  clear A40
  replace H := Option.bind_eq_some_iff.mp H
  obtain ⟨t220, A50, H⟩ := H
  replace H : ((config_Alike.f k t210 t211 t214 t215).bind fun t221 => ((config_Follows.f k 1 (([5] : List Int)) 2 (([5, 6] : List Int))).bind fun t228 => ((hawserlaw16_plain.f a0_0 l0_1).bind fun bt229 => ((hawserlaw16_plain.f a1_0 l1_1).bind fun bt233 => ((hawserref16_Follows.f k bt229.1 bt229.2 bt233.1 bt233.2).bind fun t237 => (if (t220 == t237) = true then ((hawserlaw16_plain.f a0_0 l0_1).bind fun bt238 => ((hawserlaw16_plain.f a1_0 l1_1).bind fun bt242 => ((hawserref16_Alike.f k bt238.1 bt238.2 bt242.1 bt242.2).bind fun t246 => (if (t221 == t246) = true then ((hawserlaw16_kept.f k t210 t211 a0_0 l0_1).bind fun t247 => (if t247 = true then ((hawserlaw16_kept.f k t214 t215 a1_0 l1_1).bind fun t248 => (if t248 = true then (some t228) else (none))) else (none))) else (none))))) else (none))))))) = some r := H
  have A5 := A_ A50
  clear A50
  replace H := Option.bind_eq_some_iff.mp H
  obtain ⟨t221, A60, H⟩ := H
  replace H : ((config_Follows.f k 1 (([5] : List Int)) 2 (([5, 6] : List Int))).bind fun t228 => ((hawserlaw16_plain.f a0_0 l0_1).bind fun bt229 => ((hawserlaw16_plain.f a1_0 l1_1).bind fun bt233 => ((hawserref16_Follows.f k bt229.1 bt229.2 bt233.1 bt233.2).bind fun t237 => (if (t220 == t237) = true then ((hawserlaw16_plain.f a0_0 l0_1).bind fun bt238 => ((hawserlaw16_plain.f a1_0 l1_1).bind fun bt242 => ((hawserref16_Alike.f k bt238.1 bt238.2 bt242.1 bt242.2).bind fun t246 => (if (t221 == t246) = true then ((hawserlaw16_kept.f k t210 t211 a0_0 l0_1).bind fun t247 => (if t247 = true then ((hawserlaw16_kept.f k t214 t215 a1_0 l1_1).bind fun t248 => (if t248 = true then (some t228) else (none))) else (none))) else (none))))) else (none)))))) = some r := H
  have A6 := A_ A60
  clear A60
  obtain ⟨y222, hy222⟩ : ∃ y_ : List Int, y_ = (([5] : List Int)) := ⟨_, rfl⟩
  replace H : ((config_Follows.f k 1 y222 2 (([5, 6] : List Int))).bind fun t228 => ((hawserlaw16_plain.f a0_0 l0_1).bind fun bt229 => ((hawserlaw16_plain.f a1_0 l1_1).bind fun bt233 => ((hawserref16_Follows.f k bt229.1 bt229.2 bt233.1 bt233.2).bind fun t237 => (if (t220 == t237) = true then ((hawserlaw16_plain.f a0_0 l0_1).bind fun bt238 => ((hawserlaw16_plain.f a1_0 l1_1).bind fun bt242 => ((hawserref16_Alike.f k bt238.1 bt238.2 bt242.1 bt242.2).bind fun t246 => (if (t221 == t246) = true then ((hawserlaw16_kept.f k t210 t211 a0_0 l0_1).bind fun t247 => (if t247 = true then ((hawserlaw16_kept.f k t214 t215 a1_0 l1_1).bind fun t248 => (if t248 = true then (some t228) else (none))) else (none))) else (none))))) else (none)))))) = some r := by first | (rw [hy222]; with_reducible exact H) | (have H2_ := (Option.bind_some _ _).symm.trans H; rw [hy222]; with_reducible exact H2_) | (have H2_ := (Option.bind_some _ _).symm.trans H; with_reducible exact H2_) | with_reducible exact H | (rw [hy222]; exact H) | exact H
  have Ny222 := A_ hy222
  clear hy222
  obtain ⟨y225, hy225⟩ : ∃ y_ : List Int, y_ = (([5, 6] : List Int)) := ⟨_, rfl⟩
  replace H : ((config_Follows.f k 1 y222 2 y225).bind fun t228 => ((hawserlaw16_plain.f a0_0 l0_1).bind fun bt229 => ((hawserlaw16_plain.f a1_0 l1_1).bind fun bt233 => ((hawserref16_Follows.f k bt229.1 bt229.2 bt233.1 bt233.2).bind fun t237 => (if (t220 == t237) = true then ((hawserlaw16_plain.f a0_0 l0_1).bind fun bt238 => ((hawserlaw16_plain.f a1_0 l1_1).bind fun bt242 => ((hawserref16_Alike.f k bt238.1 bt238.2 bt242.1 bt242.2).bind fun t246 => (if (t221 == t246) = true then ((hawserlaw16_kept.f k t210 t211 a0_0 l0_1).bind fun t247 => (if t247 = true then ((hawserlaw16_kept.f k t214 t215 a1_0 l1_1).bind fun t248 => (if t248 = true then (some t228) else (none))) else (none))) else (none))))) else (none)))))) = some r := by first | (rw [hy225]; with_reducible exact H) | (have H2_ := (Option.bind_some _ _).symm.trans H; rw [hy225]; with_reducible exact H2_) | (have H2_ := (Option.bind_some _ _).symm.trans H; with_reducible exact H2_) | with_reducible exact H | (rw [hy225]; exact H) | exact H
  have Ny225 := A_ hy225
  clear hy225
  replace H := Option.bind_eq_some_iff.mp H
  obtain ⟨t228, A70, H⟩ := H
  replace H : ((hawserlaw16_plain.f a0_0 l0_1).bind fun bt229 => ((hawserlaw16_plain.f a1_0 l1_1).bind fun bt233 => ((hawserref16_Follows.f k bt229.1 bt229.2 bt233.1 bt233.2).bind fun t237 => (if (t220 == t237) = true then ((hawserlaw16_plain.f a0_0 l0_1).bind fun bt238 => ((hawserlaw16_plain.f a1_0 l1_1).bind fun bt242 => ((hawserref16_Alike.f k bt238.1 bt238.2 bt242.1 bt242.2).bind fun t246 => (if (t221 == t246) = true then ((hawserlaw16_kept.f k t210 t211 a0_0 l0_1).bind fun t247 => (if t247 = true then ((hawserlaw16_kept.f k t214 t215 a1_0 l1_1).bind fun t248 => (if t248 = true then (some t228) else (none))) else (none))) else (none))))) else (none))))) = some r := H
  have A7 := A_ A70
  clear A70
  replace H := Option.bind_eq_some_iff.mp H
  obtain ⟨⟨t229, t230⟩, A80, H⟩ := H
  replace H : ((hawserlaw16_plain.f a1_0 l1_1).bind fun bt233 => ((hawserref16_Follows.f k t229 t230 bt233.1 bt233.2).bind fun t237 => (if (t220 == t237) = true then ((hawserlaw16_plain.f a0_0 l0_1).bind fun bt238 => ((hawserlaw16_plain.f a1_0 l1_1).bind fun bt242 => ((hawserref16_Alike.f k bt238.1 bt238.2 bt242.1 bt242.2).bind fun t246 => (if (t221 == t246) = true then ((hawserlaw16_kept.f k t210 t211 a0_0 l0_1).bind fun t247 => (if t247 = true then ((hawserlaw16_kept.f k t214 t215 a1_0 l1_1).bind fun t248 => (if t248 = true then (some t228) else (none))) else (none))) else (none))))) else (none)))) = some r := H
  have A8 := A_ A80
  clear A80
  replace H := Option.bind_eq_some_iff.mp H
  obtain ⟨⟨t233, t234⟩, A90, H⟩ := H
  replace H : ((hawserref16_Follows.f k t229 t230 t233 t234).bind fun t237 => (if (t220 == t237) = true then ((hawserlaw16_plain.f a0_0 l0_1).bind fun bt238 => ((hawserlaw16_plain.f a1_0 l1_1).bind fun bt242 => ((hawserref16_Alike.f k bt238.1 bt238.2 bt242.1 bt242.2).bind fun t246 => (if (t221 == t246) = true then ((hawserlaw16_kept.f k t210 t211 a0_0 l0_1).bind fun t247 => (if t247 = true then ((hawserlaw16_kept.f k t214 t215 a1_0 l1_1).bind fun t248 => (if t248 = true then (some t228) else (none))) else (none))) else (none))))) else (none))) = some r := H
  have A9 := A_ A90
  clear A90
  replace H := Option.bind_eq_some_iff.mp H
  obtain ⟨t237, A100, H⟩ := H
  replace H : (if (t220 == t237) = true then ((hawserlaw16_plain.f a0_0 l0_1).bind fun bt238 => ((hawserlaw16_plain.f a1_0 l1_1).bind fun bt242 => ((hawserref16_Alike.f k bt238.1 bt238.2 bt242.1 bt242.2).bind fun t246 => (if (t221 == t246) = true then ((hawserlaw16_kept.f k t210 t211 a0_0 l0_1).bind fun t247 => (if t247 = true then ((hawserlaw16_kept.f k t214 t215 a1_0 l1_1).bind fun t248 => (if t248 = true then (some t228) else (none))) else (none))) else (none))))) else (none)) = some r := H
  have A10 := A_ A100
  clear A100
  by_cases c11 : (t220 == t237) = true
  · rw [if_pos c11] at H
    have c11b0 : (t220 == t237) = true := c11
    (try (have c11b1 : decide (t220 = t237) = true := by simpa using c11))
    (try (have c11b2 : (t220 == t237) = true := by simpa using c11))
    clear c11
    replace H := Option.bind_eq_some_iff.mp H
    obtain ⟨⟨t238, t239⟩, A120, H⟩ := H
    replace H : ((hawserlaw16_plain.f a1_0 l1_1).bind fun bt242 => ((hawserref16_Alike.f k t238 t239 bt242.1 bt242.2).bind fun t246 => (if (t221 == t246) = true then ((hawserlaw16_kept.f k t210 t211 a0_0 l0_1).bind fun t247 => (if t247 = true then ((hawserlaw16_kept.f k t214 t215 a1_0 l1_1).bind fun t248 => (if t248 = true then (some t228) else (none))) else (none))) else (none)))) = some r := H
    have A12 := A_ A120
    clear A120
    replace H := Option.bind_eq_some_iff.mp H
    obtain ⟨⟨t242, t243⟩, A130, H⟩ := H
    replace H : ((hawserref16_Alike.f k t238 t239 t242 t243).bind fun t246 => (if (t221 == t246) = true then ((hawserlaw16_kept.f k t210 t211 a0_0 l0_1).bind fun t247 => (if t247 = true then ((hawserlaw16_kept.f k t214 t215 a1_0 l1_1).bind fun t248 => (if t248 = true then (some t228) else (none))) else (none))) else (none))) = some r := H
    have A13 := A_ A130
    clear A130
    replace H := Option.bind_eq_some_iff.mp H
    obtain ⟨t246, A140, H⟩ := H
    replace H : (if (t221 == t246) = true then ((hawserlaw16_kept.f k t210 t211 a0_0 l0_1).bind fun t247 => (if t247 = true then ((hawserlaw16_kept.f k t214 t215 a1_0 l1_1).bind fun t248 => (if t248 = true then (some t228) else (none))) else (none))) else (none)) = some r := H
    have A14 := A_ A140
    clear A140
    by_cases c15 : (t221 == t246) = true
    · rw [if_pos c15] at H
      have c15b0 : (t221 == t246) = true := c15
      (try (have c15b1 : decide (t221 = t246) = true := by simpa using c15))
      (try (have c15b2 : (t221 == t246) = true := by simpa using c15))
      clear c15
      replace H := Option.bind_eq_some_iff.mp H
      obtain ⟨t247, A160, H⟩ := H
      replace H : (if t247 = true then ((hawserlaw16_kept.f k t214 t215 a1_0 l1_1).bind fun t248 => (if t248 = true then (some t228) else (none))) else (none)) = some r := H
      have A16 := A_ A160
      clear A160
      by_cases c17 : t247 = true
      · subst c17
        have H1 : ((hawserlaw16_kept.f k t214 t215 a1_0 l1_1).bind fun t248 => (if t248 = true then (some t228) else (none))) = some r := by rw [if_pos rfl] at H; exact H
        clear H
        have H := H1
        clear H1
        replace H := Option.bind_eq_some_iff.mp H
        obtain ⟨t248, A180, H⟩ := H
        replace H : (if t248 = true then (some t228) else (none)) = some r := H
        have A18 := A_ A180
        clear A180
        by_cases c19 : t248 = true
        · subst c19
          have H1 : (some t228) = some r := by rw [if_pos rfl] at H; exact H
          clear H
          have H := H1
          clear H1
          obtain rfl := Option.some.inj H
          go_enter Try.func7, Try.ntmps7
          try go_wp2_with (first | ((with_reducible refine gate_dst (N := 2) rfl ?_); refine box_event ?hg (N := 2) ?hd (cs := #[.int .i64 a0_0, .slice A0_1 l0_1.length c0_1]) (t := 32) ?hr ?_; (case hd => rfl); (case hg => rfl); (case hr => first | (go_simp; done) | (go_simp; rfl)); intro gb208 hg w20 hbox hb; have n0_ := A_ (below_step (by repeat (first | (with_reducible first | exact HB.out | apply pA_ | apply pN_ | apply pD_) | exact HB.out)) hb); have n1_ := A_ (hbox); have n2_ := A_ ((by rw [hg]; exact (below_size (by repeat (first | (with_reducible first | exact HB.out | apply pA_ | apply pN_ | apply pD_) | exact HB.out))) : w.heap.size ≤ gb208)); have n3_ := A_ ((by rw [hg]; exact (below_size (by repeat (first | (with_reducible first | exact HB.out | apply pA_ | apply pN_ | apply pD_) | exact HB.out))) : w.heap.size ≤ gb208)); clear HB; have HB := n0_; have BK208 := n1_; have GW208 := n2_; have GE208 := n3_; clear n0_ n1_ n2_ n3_; clear hb hbox hg) | ((with_reducible refine gate_dst (N := 3) rfl ?_); refine box_event ?hg (N := 3) ?hd (cs := #[.int .i64 a1_0, .slice A1_1 l1_1.length c1_1]) (t := 32) ?hr ?_; (case hd => rfl); (case hg => rfl); (case hr => first | (go_simp; done) | (go_simp; rfl)); intro gb209 hg w21 hbox hb; have n0_ := A_ (blk_below (g := gb208) (o := .cells #[.int .i64 a0_0, .slice A0_1 l0_1.length c0_1] 32 (0, 0)) (by (with_reducible repeat (first | refine bN_ ?_ _ | refine bD_ ?_ | refine bA_ ?_ _)); exact BK208.out) hb); have n1_ := A_ (below_step (by repeat (first | (with_reducible first | exact HB.out | apply pA_ | apply pN_ | apply pD_ | refine bs_ ?_ GE208.out) | exact HB.out)) hb); have n2_ := A_ (hbox); have n3_ := A_ ((by rw [hg]; exact (below_size (by repeat (first | (with_reducible first | exact HB.out | apply pA_ | apply pN_ | apply pD_ | refine bs_ ?_ GE208.out) | exact HB.out))) : w.heap.size ≤ gb209)); have n4_ := A_ ((by rw [hg]; exact (below_size (by repeat (first | (with_reducible first | exact HB.out | apply pA_ | apply pN_ | apply pD_ | refine bs_ ?_ GE208.out) | exact HB.out))) : w.heap.size ≤ gb209)); have n5_ := A_ ((by rw [hg]; exact Nat.ne_of_lt (blk_lt (g := gb208) (o := .cells #[.int .i64 a0_0, .slice A0_1 l0_1.length c0_1] 32 (0, 0)) (by (with_reducible repeat (first | refine bN_ ?_ _ | refine bD_ ?_ | refine bA_ ?_ _)); exact BK208.out)) : gb208 ≠ gb209)); have n6_ := A_ ((by rw [hg]; exact Nat.ne_of_gt (blk_lt (g := gb208) (o := .cells #[.int .i64 a0_0, .slice A0_1 l0_1.length c0_1] 32 (0, 0)) (by (with_reducible repeat (first | refine bN_ ?_ _ | refine bD_ ?_ | refine bA_ ?_ _)); exact BK208.out)) : gb209 ≠ gb208)); clear BK208; clear HB; have BK208 := n0_; have HB := n1_; have BK209 := n2_; have GW209 := n3_; have GE209 := n4_; have NB208_209 := n5_; have NB209_208 := n6_; clear n0_ n1_ n2_ n3_ n4_ n5_ n6_; clear hb hbox hg))
          have n0_ := A_ (bD_ BK208.out)
          have n1_ := A_ (bD_ BK209.out)
          have n2_ := A_ (pD_ HB.out)
          clear BK208
          clear BK209
          clear HB
          have BK208 := n0_
          have BK209 := n1_
          have HB := n2_
          clear n0_ n1_ n2_
          refine start_ (n := 8) (S := fun w' => w'.cell? ⟨gb208, 0, none⟩ = some (.int .i64 a0_0) ∧ w'.cell? ⟨gb208, 1, none⟩ = some (.slice A0_1 l0_1.length c0_1) ∧ w'.cell? ⟨gb209, 0, none⟩ = some (.int .i64 a1_0) ∧ w'.cell? ⟨gb209, 1, none⟩ = some (.slice A1_1 l1_1.length c1_1)) (ds := []) #[false, false, false, false, false, false, false, false] (by kernel_rfl) rfl rfl ⟨(bc_ BK208.out 0).trans rfl, (bc_ BK208.out 1).trans rfl, (bc_ BK209.out 0).trans rfl, (bc_ BK209.out 1).trans rfl⟩ (fun hHeld => ?_); refine with_tabW hawserlaw16_ConfigFollows.tab1 hawserlaw16_ConfigFollows.bits1 (fun HT_ HW_ => ?_)
          generalize w21.drew = w22 at BK208 BK209 HB hHeld ⊢
          refine take_ (i := 0) (N := some 10) (v := ?_) (a' := ?_) #[true, false, false, false, false, false, false, false] rfl rfl (take_ofW HT_.out HW_.out (by kernel_rfl)) (fun _ _ _ h => h) (Or.inl ⟨by rfl, ?_⟩) hHeld ?_ ?_
          rotate_left
          · rintro w' ⟨s0, s1, s2, s3⟩
            go_simp
            with_reducible rfl
          rotate_left
          · simp only [Act.put, l1_, l2_, l3_, i64_w, i32_w]
            rfl
          refine take_ (i := 2) (N := some 12) (v := ?_) (a' := ?_) #[true, false, true, false, false, false, false, false] rfl rfl (take_ofW HT_.out HW_.out (by kernel_rfl)) (fun _ _ _ h => h) (Or.inl ⟨by rfl, ?_⟩) hHeld ?_ ?_
          rotate_left
          · rintro w' ⟨s0, s1, s2, s3⟩
            go_simp
            with_reducible rfl
          rotate_left
          · simp only [Act.put, l1_, l2_, l3_, i64_w, i32_w]
            rfl
          refine join_ (σ := Value × Value × Nat × Nat) 2 #[true, true, true, true, true, true, false, false] (fun s_ => [(11, .agg #[.int .i64 t210, s_.1]), (13, .agg #[.int .i64 t214, s_.2.1]), (5, .pointer (some ⟨s_.2.2.1, 0, none⟩)), (6, .pointer (some ⟨s_.2.2.2, 0, none⟩))]) (fun s_ w' => (w'.cell? ⟨gb208, 0, none⟩ = some (.int .i64 a0_0) ∧ w'.cell? ⟨gb208, 1, none⟩ = some (.slice A0_1 l0_1.length c0_1) ∧ w'.cell? ⟨gb209, 0, none⟩ = some (.int .i64 a1_0) ∧ w'.cell? ⟨gb209, 1, none⟩ = some (.slice A1_1 l1_1.length c1_1)) ∧ (Tw.V (Kd.int .i64) 3 w' w.heap.size (fun k_ => k_ ≠ gb208 ∧ k_ ≠ gb209 ∧ k_ ≠ s_.2.2.1 ∧ k_ ≠ s_.2.2.2) s_.1 t211) ∧ (Tw.V (Kd.int .i64) 3 w' w.heap.size (fun k_ => k_ ≠ gb208 ∧ k_ ≠ gb209 ∧ k_ ≠ s_.2.2.1 ∧ k_ ≠ s_.2.2.2) s_.2.1 t215) ∧ (w'.heap[gb208]? = some (.cells #[.int .i64 a0_0, .slice A0_1 l0_1.length c0_1] 32 (0, 0))) ∧ (w'.heap[gb209]? = some (.cells #[.int .i64 a1_0, .slice A1_1 l1_1.length c1_1] 32 (0, 0))) ∧ (w'.heap[s_.2.2.1]? = some (.cells #[.int .i64 0, .slice none 0 0] 32 (0, 0))) ∧ (w'.heap[s_.2.2.2]? = some (.cells #[.int .i64 0, .slice none 0 0] 32 (0, 0))) ∧ (w.heap.size ≤ s_.2.2.1) ∧ (w.heap.size ≤ s_.2.2.1) ∧ (gb208 ≠ s_.2.2.1) ∧ (s_.2.2.1 ≠ gb208) ∧ (gb209 ≠ s_.2.2.1) ∧ (s_.2.2.1 ≠ gb209) ∧ (s_.2.2.2 ≠ s_.2.2.1) ∧ (s_.2.2.1 ≠ s_.2.2.2) ∧ (w.heap.size ≤ s_.2.2.2) ∧ (w.heap.size ≤ s_.2.2.2) ∧ (gb208 ≠ s_.2.2.2) ∧ (s_.2.2.2 ≠ gb208) ∧ (gb209 ≠ s_.2.2.2) ∧ (s_.2.2.2 ≠ gb209) ∧ (Below w.heap.size w w')) ?_ ?_
          rotate_left
          · intro hJ1_3_4_5
            refine join_ (σ := Value × Value × Nat) 3 #[true, true, true, true, true, false, false, false] (fun s_ => [(11, .agg #[.int .i64 t210, s_.1]), (13, .agg #[.int .i64 t214, s_.2.1]), (5, .pointer (some ⟨s_.2.2, 0, none⟩))]) (fun s_ w' => (w'.cell? ⟨gb208, 0, none⟩ = some (.int .i64 a0_0) ∧ w'.cell? ⟨gb208, 1, none⟩ = some (.slice A0_1 l0_1.length c0_1) ∧ w'.cell? ⟨gb209, 0, none⟩ = some (.int .i64 a1_0) ∧ w'.cell? ⟨gb209, 1, none⟩ = some (.slice A1_1 l1_1.length c1_1)) ∧ (Tw.V (Kd.int .i64) 3 w' w.heap.size (fun k_ => k_ ≠ gb208 ∧ k_ ≠ gb209 ∧ k_ ≠ s_.2.2) s_.1 t211) ∧ (Tw.V (Kd.int .i64) 3 w' w.heap.size (fun k_ => k_ ≠ gb208 ∧ k_ ≠ gb209 ∧ k_ ≠ s_.2.2) s_.2.1 t215) ∧ (w'.heap[gb208]? = some (.cells #[.int .i64 a0_0, .slice A0_1 l0_1.length c0_1] 32 (0, 0))) ∧ (w'.heap[gb209]? = some (.cells #[.int .i64 a1_0, .slice A1_1 l1_1.length c1_1] 32 (0, 0))) ∧ (w'.heap[s_.2.2]? = some (.cells #[.int .i64 0, .slice none 0 0] 32 (0, 0))) ∧ (w.heap.size ≤ s_.2.2) ∧ (w.heap.size ≤ s_.2.2) ∧ (gb208 ≠ s_.2.2) ∧ (s_.2.2 ≠ gb208) ∧ (gb209 ≠ s_.2.2) ∧ (s_.2.2 ≠ gb209) ∧ (Below w.heap.size w w')) ?_ ?_
            rotate_left
            · intro hJ1_3_4
              refine join_ (σ := Value × Value × Nat) 3 #[true, true, true, true, false, true, false, false] (fun s_ => [(11, .agg #[.int .i64 t210, s_.1]), (13, .agg #[.int .i64 t214, s_.2.1]), (6, .pointer (some ⟨s_.2.2, 0, none⟩))]) (fun s_ w' => (w'.cell? ⟨gb208, 0, none⟩ = some (.int .i64 a0_0) ∧ w'.cell? ⟨gb208, 1, none⟩ = some (.slice A0_1 l0_1.length c0_1) ∧ w'.cell? ⟨gb209, 0, none⟩ = some (.int .i64 a1_0) ∧ w'.cell? ⟨gb209, 1, none⟩ = some (.slice A1_1 l1_1.length c1_1)) ∧ (Tw.V (Kd.int .i64) 3 w' w.heap.size (fun k_ => k_ ≠ gb208 ∧ k_ ≠ gb209 ∧ k_ ≠ s_.2.2) s_.1 t211) ∧ (Tw.V (Kd.int .i64) 3 w' w.heap.size (fun k_ => k_ ≠ gb208 ∧ k_ ≠ gb209 ∧ k_ ≠ s_.2.2) s_.2.1 t215) ∧ (w'.heap[gb208]? = some (.cells #[.int .i64 a0_0, .slice A0_1 l0_1.length c0_1] 32 (0, 0))) ∧ (w'.heap[gb209]? = some (.cells #[.int .i64 a1_0, .slice A1_1 l1_1.length c1_1] 32 (0, 0))) ∧ (w'.heap[s_.2.2]? = some (.cells #[.int .i64 0, .slice none 0 0] 32 (0, 0))) ∧ (w.heap.size ≤ s_.2.2) ∧ (w.heap.size ≤ s_.2.2) ∧ (gb208 ≠ s_.2.2) ∧ (s_.2.2 ≠ gb208) ∧ (gb209 ≠ s_.2.2) ∧ (s_.2.2 ≠ gb209) ∧ (Below w.heap.size w w')) ?_ ?_
              rotate_left
              · intro hJ1_3_5
                refine join_ (σ := Value × Nat × Nat) 3 #[true, true, true, false, true, true, false, false] (fun s_ => [(11, .agg #[.int .i64 t210, s_.1]), (5, .pointer (some ⟨s_.2.1, 0, none⟩)), (6, .pointer (some ⟨s_.2.2, 0, none⟩))]) (fun s_ w' => (w'.cell? ⟨gb208, 0, none⟩ = some (.int .i64 a0_0) ∧ w'.cell? ⟨gb208, 1, none⟩ = some (.slice A0_1 l0_1.length c0_1) ∧ w'.cell? ⟨gb209, 0, none⟩ = some (.int .i64 a1_0) ∧ w'.cell? ⟨gb209, 1, none⟩ = some (.slice A1_1 l1_1.length c1_1)) ∧ (Tw.V (Kd.int .i64) 3 w' w.heap.size (fun k_ => k_ ≠ gb208 ∧ k_ ≠ gb209 ∧ k_ ≠ s_.2.1 ∧ k_ ≠ s_.2.2) s_.1 t211) ∧ (w'.heap[gb208]? = some (.cells #[.int .i64 a0_0, .slice A0_1 l0_1.length c0_1] 32 (0, 0))) ∧ (w'.heap[gb209]? = some (.cells #[.int .i64 a1_0, .slice A1_1 l1_1.length c1_1] 32 (0, 0))) ∧ (w'.heap[s_.2.1]? = some (.cells #[.int .i64 0, .slice none 0 0] 32 (0, 0))) ∧ (w'.heap[s_.2.2]? = some (.cells #[.int .i64 0, .slice none 0 0] 32 (0, 0))) ∧ (w.heap.size ≤ s_.2.1) ∧ (w.heap.size ≤ s_.2.1) ∧ (gb208 ≠ s_.2.1) ∧ (s_.2.1 ≠ gb208) ∧ (gb209 ≠ s_.2.1) ∧ (s_.2.1 ≠ gb209) ∧ (s_.2.2 ≠ s_.2.1) ∧ (s_.2.1 ≠ s_.2.2) ∧ (w.heap.size ≤ s_.2.2) ∧ (w.heap.size ≤ s_.2.2) ∧ (gb208 ≠ s_.2.2) ∧ (s_.2.2 ≠ gb208) ∧ (gb209 ≠ s_.2.2) ∧ (s_.2.2 ≠ gb209) ∧ (Below w.heap.size w w')) ?_ ?_
                rotate_left
                · intro hJ1_4_5
                  refine join_ (σ := Value × Value) 4 #[true, true, true, true, false, false, false, false] (fun s_ => [(11, .agg #[.int .i64 t210, s_.1]), (13, .agg #[.int .i64 t214, s_.2])]) (fun s_ w' => (w'.cell? ⟨gb208, 0, none⟩ = some (.int .i64 a0_0) ∧ w'.cell? ⟨gb208, 1, none⟩ = some (.slice A0_1 l0_1.length c0_1) ∧ w'.cell? ⟨gb209, 0, none⟩ = some (.int .i64 a1_0) ∧ w'.cell? ⟨gb209, 1, none⟩ = some (.slice A1_1 l1_1.length c1_1)) ∧ (Tw.V (Kd.int .i64) 3 w' w.heap.size (fun k_ => k_ ≠ gb208 ∧ k_ ≠ gb209) s_.1 t211) ∧ (Tw.V (Kd.int .i64) 3 w' w.heap.size (fun k_ => k_ ≠ gb208 ∧ k_ ≠ gb209) s_.2 t215) ∧ (w'.heap[gb208]? = some (.cells #[.int .i64 a0_0, .slice A0_1 l0_1.length c0_1] 32 (0, 0))) ∧ (w'.heap[gb209]? = some (.cells #[.int .i64 a1_0, .slice A1_1 l1_1.length c1_1] 32 (0, 0))) ∧ (Below w.heap.size w w')) ?_ ?_
                  rotate_left
                  · intro hJ1_3
                    refine join_ (σ := Value × Nat) 4 #[true, true, true, false, true, false, false, false] (fun s_ => [(11, .agg #[.int .i64 t210, s_.1]), (5, .pointer (some ⟨s_.2, 0, none⟩))]) (fun s_ w' => (w'.cell? ⟨gb208, 0, none⟩ = some (.int .i64 a0_0) ∧ w'.cell? ⟨gb208, 1, none⟩ = some (.slice A0_1 l0_1.length c0_1) ∧ w'.cell? ⟨gb209, 0, none⟩ = some (.int .i64 a1_0) ∧ w'.cell? ⟨gb209, 1, none⟩ = some (.slice A1_1 l1_1.length c1_1)) ∧ (Tw.V (Kd.int .i64) 3 w' w.heap.size (fun k_ => k_ ≠ gb208 ∧ k_ ≠ gb209 ∧ k_ ≠ s_.2) s_.1 t211) ∧ (w'.heap[gb208]? = some (.cells #[.int .i64 a0_0, .slice A0_1 l0_1.length c0_1] 32 (0, 0))) ∧ (w'.heap[gb209]? = some (.cells #[.int .i64 a1_0, .slice A1_1 l1_1.length c1_1] 32 (0, 0))) ∧ (w'.heap[s_.2]? = some (.cells #[.int .i64 0, .slice none 0 0] 32 (0, 0))) ∧ (w.heap.size ≤ s_.2) ∧ (w.heap.size ≤ s_.2) ∧ (gb208 ≠ s_.2) ∧ (s_.2 ≠ gb208) ∧ (gb209 ≠ s_.2) ∧ (s_.2 ≠ gb209) ∧ (Below w.heap.size w w')) ?_ ?_
                    rotate_left
                    · intro hJ1_4
                      refine join_ (σ := Value × Nat) 4 #[true, true, true, false, false, true, false, false] (fun s_ => [(11, .agg #[.int .i64 t210, s_.1]), (6, .pointer (some ⟨s_.2, 0, none⟩))]) (fun s_ w' => (w'.cell? ⟨gb208, 0, none⟩ = some (.int .i64 a0_0) ∧ w'.cell? ⟨gb208, 1, none⟩ = some (.slice A0_1 l0_1.length c0_1) ∧ w'.cell? ⟨gb209, 0, none⟩ = some (.int .i64 a1_0) ∧ w'.cell? ⟨gb209, 1, none⟩ = some (.slice A1_1 l1_1.length c1_1)) ∧ (Tw.V (Kd.int .i64) 3 w' w.heap.size (fun k_ => k_ ≠ gb208 ∧ k_ ≠ gb209 ∧ k_ ≠ s_.2) s_.1 t211) ∧ (w'.heap[gb208]? = some (.cells #[.int .i64 a0_0, .slice A0_1 l0_1.length c0_1] 32 (0, 0))) ∧ (w'.heap[gb209]? = some (.cells #[.int .i64 a1_0, .slice A1_1 l1_1.length c1_1] 32 (0, 0))) ∧ (w'.heap[s_.2]? = some (.cells #[.int .i64 0, .slice none 0 0] 32 (0, 0))) ∧ (w.heap.size ≤ s_.2) ∧ (w.heap.size ≤ s_.2) ∧ (gb208 ≠ s_.2) ∧ (s_.2 ≠ gb208) ∧ (gb209 ≠ s_.2) ∧ (s_.2 ≠ gb209) ∧ (Below w.heap.size w w')) ?_ ?_
                      rotate_left
                      · intro hJ1_5
                        refine join_ (σ := Nat × Nat) 4 #[true, false, true, false, true, true, false, false] (fun s_ => [(5, .pointer (some ⟨s_.1, 0, none⟩)), (6, .pointer (some ⟨s_.2, 0, none⟩))]) (fun s_ w' => (w'.cell? ⟨gb208, 0, none⟩ = some (.int .i64 a0_0) ∧ w'.cell? ⟨gb208, 1, none⟩ = some (.slice A0_1 l0_1.length c0_1) ∧ w'.cell? ⟨gb209, 0, none⟩ = some (.int .i64 a1_0) ∧ w'.cell? ⟨gb209, 1, none⟩ = some (.slice A1_1 l1_1.length c1_1)) ∧ (w'.heap[gb208]? = some (.cells #[.int .i64 a0_0, .slice A0_1 l0_1.length c0_1] 32 (0, 0))) ∧ (w'.heap[gb209]? = some (.cells #[.int .i64 a1_0, .slice A1_1 l1_1.length c1_1] 32 (0, 0))) ∧ (w'.heap[s_.1]? = some (.cells #[.int .i64 0, .slice none 0 0] 32 (0, 0))) ∧ (w'.heap[s_.2]? = some (.cells #[.int .i64 0, .slice none 0 0] 32 (0, 0))) ∧ (w.heap.size ≤ s_.1) ∧ (w.heap.size ≤ s_.1) ∧ (gb208 ≠ s_.1) ∧ (s_.1 ≠ gb208) ∧ (gb209 ≠ s_.1) ∧ (s_.1 ≠ gb209) ∧ (s_.2 ≠ s_.1) ∧ (s_.1 ≠ s_.2) ∧ (w.heap.size ≤ s_.2) ∧ (w.heap.size ≤ s_.2) ∧ (gb208 ≠ s_.2) ∧ (s_.2 ≠ gb208) ∧ (gb209 ≠ s_.2) ∧ (s_.2 ≠ gb209) ∧ (Below w.heap.size w w')) ?_ ?_
                        rotate_left
                        · intro hJ4_5
                          refine join_ (σ := Value) 5 #[true, true, true, false, false, false, false, false] (fun s_ => [(11, .agg #[.int .i64 t210, s_])]) (fun s_ w' => (w'.cell? ⟨gb208, 0, none⟩ = some (.int .i64 a0_0) ∧ w'.cell? ⟨gb208, 1, none⟩ = some (.slice A0_1 l0_1.length c0_1) ∧ w'.cell? ⟨gb209, 0, none⟩ = some (.int .i64 a1_0) ∧ w'.cell? ⟨gb209, 1, none⟩ = some (.slice A1_1 l1_1.length c1_1)) ∧ (Tw.V (Kd.int .i64) 3 w' w.heap.size (fun k_ => k_ ≠ gb208 ∧ k_ ≠ gb209) s_ t211) ∧ (w'.heap[gb208]? = some (.cells #[.int .i64 a0_0, .slice A0_1 l0_1.length c0_1] 32 (0, 0))) ∧ (w'.heap[gb209]? = some (.cells #[.int .i64 a1_0, .slice A1_1 l1_1.length c1_1] 32 (0, 0))) ∧ (Below w.heap.size w w')) ?_ ?_
                          rotate_left
                          · intro hJ1
                            refine join_ (σ := Nat) 5 #[true, false, true, false, true, false, false, false] (fun s_ => [(5, .pointer (some ⟨s_, 0, none⟩))]) (fun s_ w' => (w'.cell? ⟨gb208, 0, none⟩ = some (.int .i64 a0_0) ∧ w'.cell? ⟨gb208, 1, none⟩ = some (.slice A0_1 l0_1.length c0_1) ∧ w'.cell? ⟨gb209, 0, none⟩ = some (.int .i64 a1_0) ∧ w'.cell? ⟨gb209, 1, none⟩ = some (.slice A1_1 l1_1.length c1_1)) ∧ (w'.heap[gb208]? = some (.cells #[.int .i64 a0_0, .slice A0_1 l0_1.length c0_1] 32 (0, 0))) ∧ (w'.heap[gb209]? = some (.cells #[.int .i64 a1_0, .slice A1_1 l1_1.length c1_1] 32 (0, 0))) ∧ (w'.heap[s_]? = some (.cells #[.int .i64 0, .slice none 0 0] 32 (0, 0))) ∧ (w.heap.size ≤ s_) ∧ (w.heap.size ≤ s_) ∧ (gb208 ≠ s_) ∧ (s_ ≠ gb208) ∧ (gb209 ≠ s_) ∧ (s_ ≠ gb209) ∧ (Below w.heap.size w w')) ?_ ?_
                            rotate_left
                            · intro hJ4
                              refine join_ (σ := Nat) 5 #[true, false, true, false, false, true, false, false] (fun s_ => [(6, .pointer (some ⟨s_, 0, none⟩))]) (fun s_ w' => (w'.cell? ⟨gb208, 0, none⟩ = some (.int .i64 a0_0) ∧ w'.cell? ⟨gb208, 1, none⟩ = some (.slice A0_1 l0_1.length c0_1) ∧ w'.cell? ⟨gb209, 0, none⟩ = some (.int .i64 a1_0) ∧ w'.cell? ⟨gb209, 1, none⟩ = some (.slice A1_1 l1_1.length c1_1)) ∧ (w'.heap[gb208]? = some (.cells #[.int .i64 a0_0, .slice A0_1 l0_1.length c0_1] 32 (0, 0))) ∧ (w'.heap[gb209]? = some (.cells #[.int .i64 a1_0, .slice A1_1 l1_1.length c1_1] 32 (0, 0))) ∧ (w'.heap[s_]? = some (.cells #[.int .i64 0, .slice none 0 0] 32 (0, 0))) ∧ (w.heap.size ≤ s_) ∧ (w.heap.size ≤ s_) ∧ (gb208 ≠ s_) ∧ (s_ ≠ gb208) ∧ (gb209 ≠ s_) ∧ (s_ ≠ gb209) ∧ (Below w.heap.size w w')) ?_ ?_
                              rotate_left
                              · intro hJ5
                                refine three_ (i := 1) (j := 4) (k := 5) (Ni := some 11) (Nj := some 5) (Nk := some 6) #[true, true, true, false, false, false, false, false] #[true, false, true, false, true, false, false, false] #[true, false, true, false, false, true, false, false] rfl rfl rfl rfl rfl rfl (three_of HT_.out (by kernel_rfl)) (by decide) (by decide) (by decide) (fun K hK => ?_) (fun K hK => ?_) (fun K hK => ?_)
                                · skip
                                  refine goes_ Try.func18 (by kernel_rfl) rfl #[.agg #[.int .i64 a0_0, .slice A0_1 l0_1.length c0_1]] (by rfl) rfl rfl (by (try simp only [List.map_toArray, List.map_cons, List.map_nil]); first | done | rfl | (simp only [List.length_drop, List.length_take]; rfl)) ?_
                                  with_reducible refine (hawserlaw16_twin.callsV a0_0 _ _ l0_1 t210 t211 _ ?side1 ?side2 A3.out).mono ?_
                                  (case side1 => repeat (first | exact (Kd.C_below HR0_1.out HB.out) | (with_reducible refine Kd.C_alloc ?_ _) | (with_reducible refine Kd.C_drewN ?_ _) | (with_reducible refine Kd.C_drew ?_)))
                                  (case side2 => exact HC0_1.out)
                                  rintro e w23 ⟨v212, rfl, ho0, hb⟩
                                  refine ⟨_, rfl, ?_⟩
                                  have n0_ := A_ (Tw.V_lower (Tw.V_mono (ok' := fun k_ => k_ ≠ gb208 ∧ k_ ≠ gb209) ho0 (fun k_ hk_ => ⟨(Kd.freshB (g := gb208) (o := .cells #[.int .i64 a0_0, .slice A0_1 l0_1.length c0_1] 32 (0, 0)) (by (with_reducible repeat (first | refine bN_ ?_ _ | refine bD_ ?_ | refine bA_ ?_ _)); exact BK208.out) k_ hk_), (Kd.freshB (g := gb209) (o := .cells #[.int .i64 a1_0, .slice A1_1 l1_1.length c1_1] 32 (0, 0)) (by (with_reducible repeat (first | refine bN_ ?_ _ | refine bD_ ?_ | refine bA_ ?_ _)); exact BK209.out) k_ hk_)⟩)) (below_size (by repeat (first | (with_reducible first | exact HB.out | apply pA_ | apply pN_ | apply pD_ | refine bs_ ?_ GE208.out | refine bs_ ?_ GE209.out) | exact HB.out))))
                                  have n1_ := A_ (blk_below (g := gb208) (o := .cells #[.int .i64 a0_0, .slice A0_1 l0_1.length c0_1] 32 (0, 0)) (by (with_reducible repeat (first | refine bN_ ?_ _ | refine bD_ ?_ | refine bA_ ?_ _)); exact BK208.out) hb)
                                  have n2_ := A_ (blk_below (g := gb209) (o := .cells #[.int .i64 a1_0, .slice A1_1 l1_1.length c1_1] 32 (0, 0)) (by (with_reducible repeat (first | refine bN_ ?_ _ | refine bD_ ?_ | refine bA_ ?_ _)); exact BK209.out) hb)
                                  have n3_ := A_ (below_step (by repeat (first | (with_reducible first | exact HB.out | apply pA_ | apply pN_ | apply pD_ | refine bs_ ?_ GE208.out | refine bs_ ?_ GE209.out) | exact HB.out)) hb)
                                  clear BK208
                                  clear BK209
                                  clear HB
                                  have HO213 := n0_
                                  have BK208 := n1_
                                  have BK209 := n2_
                                  have HB := n3_
                                  clear n0_ n1_ n2_ n3_
                                  (try clear hb)
                                  (try clear hb2)
                                  (try clear hk)
                                  (try clear hi)
                                  (try clear ho0)
                                  refine hK.out _ _ ⟨(bc_ BK208.out 0).trans rfl, (bc_ BK208.out 1).trans rfl, (bc_ BK209.out 0).trans rfl, (bc_ BK209.out 1).trans rfl⟩ (fun hHeld => ?_)
                                  clear hK K
                                  refine norm_ (a' := ?_) ?_ ?_
                                  rotate_left
                                  · show Act.put _ (some 11) _ = _
                                    simp only [Act.put, l1_, l2_, l3_, i64_w, i32_w]
                                    rfl
                                  exact norm_ (by first | (simp only [putAll, Act.put, l1_, l2_, l3_]; done) | (simp only [putAll, Act.put, l1_, l2_, l3_]; rfl)) (hJ1 (v212) _ ⟨hHeld, (by (with_reducible repeat (first | apply Tw.V_alloc | apply Tw.V_drewN | apply Tw.V_drew)); exact HO213.out), (by (with_reducible repeat (first | refine bN_ ?_ _ | refine bD_ ?_ | refine bA_ ?_ _)); exact BK208.out), (by (with_reducible repeat (first | refine bN_ ?_ _ | refine bD_ ?_ | refine bA_ ?_ _)); exact BK209.out), (by repeat (first | (with_reducible first | exact HB.out | apply pA_ | apply pN_ | apply pD_ | refine bs_ ?_ GE208.out | refine bs_ ?_ GE209.out) | exact HB.out))⟩)
                                · skip
                                  refine box_step ?hg (N := 5) ?hd (cs := #[.int .i64 0, .slice none 0 0]) (t := 32) ?hr ?_; (case hd => rfl); (case hg => rfl); (case hr => first | (go_simp; done) | (go_simp; rfl))
                                  intro gb218 hg w23 hbox hb
                                  have n0_ := A_ (blk_below (g := gb208) (o := .cells #[.int .i64 a0_0, .slice A0_1 l0_1.length c0_1] 32 (0, 0)) (by (with_reducible repeat (first | refine bN_ ?_ _ | refine bD_ ?_ | refine bA_ ?_ _)); exact BK208.out) hb)
                                  have n1_ := A_ (blk_below (g := gb209) (o := .cells #[.int .i64 a1_0, .slice A1_1 l1_1.length c1_1] 32 (0, 0)) (by (with_reducible repeat (first | refine bN_ ?_ _ | refine bD_ ?_ | refine bA_ ?_ _)); exact BK209.out) hb)
                                  have n2_ := A_ (below_step (by repeat (first | (with_reducible first | exact HB.out | apply pA_ | apply pN_ | apply pD_ | refine bs_ ?_ GE208.out | refine bs_ ?_ GE209.out) | exact HB.out)) hb)
                                  have n3_ := A_ (hbox)
                                  have n4_ := A_ ((by rw [hg]; exact (below_size (by repeat (first | (with_reducible first | exact HB.out | apply pA_ | apply pN_ | apply pD_ | refine bs_ ?_ GE208.out | refine bs_ ?_ GE209.out) | exact HB.out))) : w.heap.size ≤ gb218))
                                  have n5_ := A_ ((by rw [hg]; exact (below_size (by repeat (first | (with_reducible first | exact HB.out | apply pA_ | apply pN_ | apply pD_ | refine bs_ ?_ GE208.out | refine bs_ ?_ GE209.out) | exact HB.out))) : w.heap.size ≤ gb218))
                                  have n6_ := A_ ((by rw [hg]; exact Nat.ne_of_lt (blk_lt (g := gb208) (o := .cells #[.int .i64 a0_0, .slice A0_1 l0_1.length c0_1] 32 (0, 0)) (by (with_reducible repeat (first | refine bN_ ?_ _ | refine bD_ ?_ | refine bA_ ?_ _)); exact BK208.out)) : gb208 ≠ gb218))
                                  have n7_ := A_ ((by rw [hg]; exact Nat.ne_of_gt (blk_lt (g := gb208) (o := .cells #[.int .i64 a0_0, .slice A0_1 l0_1.length c0_1] 32 (0, 0)) (by (with_reducible repeat (first | refine bN_ ?_ _ | refine bD_ ?_ | refine bA_ ?_ _)); exact BK208.out)) : gb218 ≠ gb208))
                                  have n8_ := A_ ((by rw [hg]; exact Nat.ne_of_lt (blk_lt (g := gb209) (o := .cells #[.int .i64 a1_0, .slice A1_1 l1_1.length c1_1] 32 (0, 0)) (by (with_reducible repeat (first | refine bN_ ?_ _ | refine bD_ ?_ | refine bA_ ?_ _)); exact BK209.out)) : gb209 ≠ gb218))
                                  have n9_ := A_ ((by rw [hg]; exact Nat.ne_of_gt (blk_lt (g := gb209) (o := .cells #[.int .i64 a1_0, .slice A1_1 l1_1.length c1_1] 32 (0, 0)) (by (with_reducible repeat (first | refine bN_ ?_ _ | refine bD_ ?_ | refine bA_ ?_ _)); exact BK209.out)) : gb218 ≠ gb209))
                                  clear BK208
                                  clear BK209
                                  clear HB
                                  have BK208 := n0_
                                  have BK209 := n1_
                                  have HB := n2_
                                  have BK218 := n3_
                                  have GW218 := n4_
                                  have GE218 := n5_
                                  have NB208_218 := n6_
                                  have NB218_208 := n7_
                                  have NB209_218 := n8_
                                  have NB218_209 := n9_
                                  clear n0_ n1_ n2_ n3_ n4_ n5_ n6_ n7_ n8_ n9_
                                  clear hb hbox hg
                                  refine hK.out _ _ ⟨(bc_ BK208.out 0).trans rfl, (bc_ BK208.out 1).trans rfl, (bc_ BK209.out 0).trans rfl, (bc_ BK209.out 1).trans rfl⟩ (fun hHeld => ?_)
                                  clear hK K
                                  refine norm_ (a' := ?_) ?_ ?_
                                  rotate_left
                                  · show Act.put _ (some 5) _ = _
                                    simp only [Act.put, l1_, l2_, l3_, i64_w, i32_w]
                                    rfl
                                  exact norm_ (by first | (simp only [putAll, Act.put, l1_, l2_, l3_]; done) | (simp only [putAll, Act.put, l1_, l2_, l3_]; rfl)) (hJ4 (gb218) _ ⟨hHeld, (by (with_reducible repeat (first | refine bN_ ?_ _ | refine bD_ ?_ | refine bA_ ?_ _)); exact BK208.out), (by (with_reducible repeat (first | refine bN_ ?_ _ | refine bD_ ?_ | refine bA_ ?_ _)); exact BK209.out), (by (with_reducible repeat (first | refine bN_ ?_ _ | refine bD_ ?_ | refine bA_ ?_ _)); exact BK218.out), GW218.out, GE218.out, NB208_218.out, NB218_208.out, NB209_218.out, NB218_209.out, (by repeat (first | (with_reducible first | exact HB.out | apply pA_ | apply pN_ | apply pD_ | refine bs_ ?_ GE208.out | refine bs_ ?_ GE209.out | refine bs_ ?_ GE218.out) | exact HB.out))⟩)
                                · skip
                                  refine box_step ?hg (N := 6) ?hd (cs := #[.int .i64 0, .slice none 0 0]) (t := 32) ?hr ?_; (case hd => rfl); (case hg => rfl); (case hr => first | (go_simp; done) | (go_simp; rfl))
                                  intro gb219 hg w23 hbox hb
                                  have n0_ := A_ (blk_below (g := gb208) (o := .cells #[.int .i64 a0_0, .slice A0_1 l0_1.length c0_1] 32 (0, 0)) (by (with_reducible repeat (first | refine bN_ ?_ _ | refine bD_ ?_ | refine bA_ ?_ _)); exact BK208.out) hb)
                                  have n1_ := A_ (blk_below (g := gb209) (o := .cells #[.int .i64 a1_0, .slice A1_1 l1_1.length c1_1] 32 (0, 0)) (by (with_reducible repeat (first | refine bN_ ?_ _ | refine bD_ ?_ | refine bA_ ?_ _)); exact BK209.out) hb)
                                  have n2_ := A_ (below_step (by repeat (first | (with_reducible first | exact HB.out | apply pA_ | apply pN_ | apply pD_ | refine bs_ ?_ GE208.out | refine bs_ ?_ GE209.out) | exact HB.out)) hb)
                                  have n3_ := A_ (hbox)
                                  have n4_ := A_ ((by rw [hg]; exact (below_size (by repeat (first | (with_reducible first | exact HB.out | apply pA_ | apply pN_ | apply pD_ | refine bs_ ?_ GE208.out | refine bs_ ?_ GE209.out) | exact HB.out))) : w.heap.size ≤ gb219))
                                  have n5_ := A_ ((by rw [hg]; exact (below_size (by repeat (first | (with_reducible first | exact HB.out | apply pA_ | apply pN_ | apply pD_ | refine bs_ ?_ GE208.out | refine bs_ ?_ GE209.out) | exact HB.out))) : w.heap.size ≤ gb219))
                                  have n6_ := A_ ((by rw [hg]; exact Nat.ne_of_lt (blk_lt (g := gb208) (o := .cells #[.int .i64 a0_0, .slice A0_1 l0_1.length c0_1] 32 (0, 0)) (by (with_reducible repeat (first | refine bN_ ?_ _ | refine bD_ ?_ | refine bA_ ?_ _)); exact BK208.out)) : gb208 ≠ gb219))
                                  have n7_ := A_ ((by rw [hg]; exact Nat.ne_of_gt (blk_lt (g := gb208) (o := .cells #[.int .i64 a0_0, .slice A0_1 l0_1.length c0_1] 32 (0, 0)) (by (with_reducible repeat (first | refine bN_ ?_ _ | refine bD_ ?_ | refine bA_ ?_ _)); exact BK208.out)) : gb219 ≠ gb208))
                                  have n8_ := A_ ((by rw [hg]; exact Nat.ne_of_lt (blk_lt (g := gb209) (o := .cells #[.int .i64 a1_0, .slice A1_1 l1_1.length c1_1] 32 (0, 0)) (by (with_reducible repeat (first | refine bN_ ?_ _ | refine bD_ ?_ | refine bA_ ?_ _)); exact BK209.out)) : gb209 ≠ gb219))
                                  have n9_ := A_ ((by rw [hg]; exact Nat.ne_of_gt (blk_lt (g := gb209) (o := .cells #[.int .i64 a1_0, .slice A1_1 l1_1.length c1_1] 32 (0, 0)) (by (with_reducible repeat (first | refine bN_ ?_ _ | refine bD_ ?_ | refine bA_ ?_ _)); exact BK209.out)) : gb219 ≠ gb209))
                                  clear BK208
                                  clear BK209
                                  clear HB
                                  have BK208 := n0_
                                  have BK209 := n1_
                                  have HB := n2_
                                  have BK219 := n3_
                                  have GW219 := n4_
                                  have GE219 := n5_
                                  have NB208_219 := n6_
                                  have NB219_208 := n7_
                                  have NB209_219 := n8_
                                  have NB219_209 := n9_
                                  clear n0_ n1_ n2_ n3_ n4_ n5_ n6_ n7_ n8_ n9_
                                  clear hb hbox hg
                                  refine hK.out _ _ ⟨(bc_ BK208.out 0).trans rfl, (bc_ BK208.out 1).trans rfl, (bc_ BK209.out 0).trans rfl, (bc_ BK209.out 1).trans rfl⟩ (fun hHeld => ?_)
                                  clear hK K
                                  refine norm_ (a' := ?_) ?_ ?_
                                  rotate_left
                                  · show Act.put _ (some 6) _ = _
                                    simp only [Act.put, l1_, l2_, l3_, i64_w, i32_w]
                                    rfl
                                  exact norm_ (by first | (simp only [putAll, Act.put, l1_, l2_, l3_]; done) | (simp only [putAll, Act.put, l1_, l2_, l3_]; rfl)) (hJ5 (gb219) _ ⟨hHeld, (by (with_reducible repeat (first | refine bN_ ?_ _ | refine bD_ ?_ | refine bA_ ?_ _)); exact BK208.out), (by (with_reducible repeat (first | refine bN_ ?_ _ | refine bD_ ?_ | refine bA_ ?_ _)); exact BK209.out), (by (with_reducible repeat (first | refine bN_ ?_ _ | refine bD_ ?_ | refine bA_ ?_ _)); exact BK219.out), GW219.out, GE219.out, NB208_219.out, NB219_208.out, NB209_219.out, NB219_209.out, (by repeat (first | (with_reducible first | exact HB.out | apply pA_ | apply pN_ | apply pD_ | refine bs_ ?_ GE208.out | refine bs_ ?_ GE209.out | refine bs_ ?_ GE219.out) | exact HB.out))⟩)
                              · skip
                                rintro gb219 w24 ⟨hS_, h0_, h1_, h2_, h3_, h4_, h5_, h6_, h7_, h8_, h9_⟩
                                have n0_ : Aside0 (w24.heap[gb208]? = some (.cells #[.int .i64 a0_0, .slice A0_1 l0_1.length c0_1] 32 (0, 0))) := ⟨h0_⟩
                                have n1_ : Aside0 (w24.heap[gb209]? = some (.cells #[.int .i64 a1_0, .slice A1_1 l1_1.length c1_1] 32 (0, 0))) := ⟨h1_⟩
                                have n2_ : Aside0 (w24.heap[gb219]? = some (.cells #[.int .i64 0, .slice none 0 0] 32 (0, 0))) := ⟨h2_⟩
                                have n3_ : Aside0 (w.heap.size ≤ gb219) := ⟨h3_⟩
                                have n4_ : Aside0 (w.heap.size ≤ gb219) := ⟨h4_⟩
                                have n5_ : Aside0 (gb208 ≠ gb219) := ⟨h5_⟩
                                have n6_ : Aside0 (gb219 ≠ gb208) := ⟨h6_⟩
                                have n7_ : Aside0 (gb209 ≠ gb219) := ⟨h7_⟩
                                have n8_ : Aside0 (gb219 ≠ gb209) := ⟨h8_⟩
                                have n9_ : Aside0 (Below w.heap.size w w24) := ⟨h9_⟩
                                clear BK208
                                clear BK209
                                clear HB
                                clear h0_ h1_ h2_ h3_ h4_ h5_ h6_ h7_ h8_ h9_
                                have BK208 := n0_
                                have BK209 := n1_
                                have BK219 := n2_
                                have GW219 := n3_
                                have GE219 := n4_
                                have NB208_219 := n5_
                                have NB219_208 := n6_
                                have NB209_219 := n7_
                                have NB219_209 := n8_
                                have HB := n9_
                                clear n0_ n1_ n2_ n3_ n4_ n5_ n6_ n7_ n8_ n9_
                                have hHeld : w24.cell? ⟨gb208, 0, none⟩ = some (.int .i64 a0_0) ∧ w24.cell? ⟨gb208, 1, none⟩ = some (.slice A0_1 l0_1.length c0_1) ∧ w24.cell? ⟨gb209, 0, none⟩ = some (.int .i64 a1_0) ∧ w24.cell? ⟨gb209, 1, none⟩ = some (.slice A1_1 l1_1.length c1_1) := hS_
                                refine norm_ (a' := ?_) ?_ ?_
                                rotate_left
                                · simp only [putAll, Act.put, l1_, l2_, l3_]
                                  rfl
                                refine two_ (i := 1) (j := 4) (Ni := some 11) (Nj := some 5) #[true, true, true, false, false, true, false, false] #[true, false, true, false, true, true, false, false] rfl rfl rfl rfl (two_of HT_.out (by kernel_rfl)) (by decide) (by decide) (fun K hK => ?_) (fun K hK => ?_)
                                · skip
                                  refine goes_ Try.func18 (by kernel_rfl) rfl #[.agg #[.int .i64 a0_0, .slice A0_1 l0_1.length c0_1]] (by rfl) rfl rfl (by (try simp only [List.map_toArray, List.map_cons, List.map_nil]); first | done | rfl | (simp only [List.length_drop, List.length_take]; rfl)) ?_
                                  with_reducible refine (hawserlaw16_twin.callsV a0_0 _ _ l0_1 t210 t211 _ ?side1 ?side2 A3.out).mono ?_
                                  (case side1 => repeat (first | exact (Kd.C_below HR0_1.out HB.out) | (with_reducible refine Kd.C_alloc ?_ _) | (with_reducible refine Kd.C_drewN ?_ _) | (with_reducible refine Kd.C_drew ?_)))
                                  (case side2 => exact HC0_1.out)
                                  rintro e w25 ⟨v212, rfl, ho0, hb⟩
                                  refine ⟨_, rfl, ?_⟩
                                  have n0_ := A_ (Tw.V_lower (Tw.V_mono (ok' := fun k_ => k_ ≠ gb208 ∧ k_ ≠ gb209 ∧ k_ ≠ gb219) ho0 (fun k_ hk_ => ⟨(Kd.freshB (g := gb208) (o := .cells #[.int .i64 a0_0, .slice A0_1 l0_1.length c0_1] 32 (0, 0)) (by (with_reducible repeat (first | refine bN_ ?_ _ | refine bD_ ?_ | refine bA_ ?_ _)); exact BK208.out) k_ hk_), (Kd.freshB (g := gb209) (o := .cells #[.int .i64 a1_0, .slice A1_1 l1_1.length c1_1] 32 (0, 0)) (by (with_reducible repeat (first | refine bN_ ?_ _ | refine bD_ ?_ | refine bA_ ?_ _)); exact BK209.out) k_ hk_), (Kd.freshB (g := gb219) (o := .cells #[.int .i64 0, .slice none 0 0] 32 (0, 0)) (by (with_reducible repeat (first | refine bN_ ?_ _ | refine bD_ ?_ | refine bA_ ?_ _)); exact BK219.out) k_ hk_)⟩)) (below_size (by repeat (first | (with_reducible first | exact HB.out | apply pA_ | apply pN_ | apply pD_ | refine bs_ ?_ GE208.out | refine bs_ ?_ GE209.out | refine bs_ ?_ GE219.out) | exact HB.out))))
                                  have n1_ := A_ (blk_below (g := gb208) (o := .cells #[.int .i64 a0_0, .slice A0_1 l0_1.length c0_1] 32 (0, 0)) (by (with_reducible repeat (first | refine bN_ ?_ _ | refine bD_ ?_ | refine bA_ ?_ _)); exact BK208.out) hb)
                                  have n2_ := A_ (blk_below (g := gb209) (o := .cells #[.int .i64 a1_0, .slice A1_1 l1_1.length c1_1] 32 (0, 0)) (by (with_reducible repeat (first | refine bN_ ?_ _ | refine bD_ ?_ | refine bA_ ?_ _)); exact BK209.out) hb)
                                  have n3_ := A_ (blk_below (g := gb219) (o := .cells #[.int .i64 0, .slice none 0 0] 32 (0, 0)) (by (with_reducible repeat (first | refine bN_ ?_ _ | refine bD_ ?_ | refine bA_ ?_ _)); exact BK219.out) hb)
                                  have n4_ := A_ (below_step (by repeat (first | (with_reducible first | exact HB.out | apply pA_ | apply pN_ | apply pD_ | refine bs_ ?_ GE208.out | refine bs_ ?_ GE209.out | refine bs_ ?_ GE219.out) | exact HB.out)) hb)
                                  clear BK208
                                  clear BK209
                                  clear BK219
                                  clear HB
                                  have HO213 := n0_
                                  have BK208 := n1_
                                  have BK209 := n2_
                                  have BK219 := n3_
                                  have HB := n4_
                                  clear n0_ n1_ n2_ n3_ n4_
                                  (try clear hb)
                                  (try clear hb2)
                                  (try clear hk)
                                  (try clear hi)
                                  (try clear ho0)
                                  refine hK.out _ _ ⟨(bc_ BK208.out 0).trans rfl, (bc_ BK208.out 1).trans rfl, (bc_ BK209.out 0).trans rfl, (bc_ BK209.out 1).trans rfl⟩ (fun hHeld => ?_)
                                  clear hK K
                                  refine norm_ (a' := ?_) ?_ ?_
                                  rotate_left
                                  · show Act.put _ (some 11) _ = _
                                    simp only [Act.put, l1_, l2_, l3_, i64_w, i32_w]
                                    rfl
                                  exact norm_ (by first | (simp only [putAll, Act.put, l1_, l2_, l3_]; done) | (simp only [putAll, Act.put, l1_, l2_, l3_]; rfl)) (hJ1_5 (v212, gb219) _ ⟨hHeld, (by (with_reducible repeat (first | apply Tw.V_alloc | apply Tw.V_drewN | apply Tw.V_drew)); exact HO213.out), (by (with_reducible repeat (first | refine bN_ ?_ _ | refine bD_ ?_ | refine bA_ ?_ _)); exact BK208.out), (by (with_reducible repeat (first | refine bN_ ?_ _ | refine bD_ ?_ | refine bA_ ?_ _)); exact BK209.out), (by (with_reducible repeat (first | refine bN_ ?_ _ | refine bD_ ?_ | refine bA_ ?_ _)); exact BK219.out), GW219.out, GE219.out, NB208_219.out, NB219_208.out, NB209_219.out, NB219_209.out, (by repeat (first | (with_reducible first | exact HB.out | apply pA_ | apply pN_ | apply pD_ | refine bs_ ?_ GE208.out | refine bs_ ?_ GE209.out | refine bs_ ?_ GE219.out) | exact HB.out))⟩)
                                · skip
                                  refine box_step ?hg (N := 5) ?hd (cs := #[.int .i64 0, .slice none 0 0]) (t := 32) ?hr ?_; (case hd => rfl); (case hg => rfl); (case hr => first | (go_simp; done) | (go_simp; rfl))
                                  intro gb218 hg w25 hbox hb
                                  have n0_ := A_ (blk_below (g := gb208) (o := .cells #[.int .i64 a0_0, .slice A0_1 l0_1.length c0_1] 32 (0, 0)) (by (with_reducible repeat (first | refine bN_ ?_ _ | refine bD_ ?_ | refine bA_ ?_ _)); exact BK208.out) hb)
                                  have n1_ := A_ (blk_below (g := gb209) (o := .cells #[.int .i64 a1_0, .slice A1_1 l1_1.length c1_1] 32 (0, 0)) (by (with_reducible repeat (first | refine bN_ ?_ _ | refine bD_ ?_ | refine bA_ ?_ _)); exact BK209.out) hb)
                                  have n2_ := A_ (blk_below (g := gb219) (o := .cells #[.int .i64 0, .slice none 0 0] 32 (0, 0)) (by (with_reducible repeat (first | refine bN_ ?_ _ | refine bD_ ?_ | refine bA_ ?_ _)); exact BK219.out) hb)
                                  have n3_ := A_ (below_step (by repeat (first | (with_reducible first | exact HB.out | apply pA_ | apply pN_ | apply pD_ | refine bs_ ?_ GE208.out | refine bs_ ?_ GE209.out | refine bs_ ?_ GE219.out) | exact HB.out)) hb)
                                  have n4_ := A_ (hbox)
                                  have n5_ := A_ ((by rw [hg]; exact (below_size (by repeat (first | (with_reducible first | exact HB.out | apply pA_ | apply pN_ | apply pD_ | refine bs_ ?_ GE208.out | refine bs_ ?_ GE209.out | refine bs_ ?_ GE219.out) | exact HB.out))) : w.heap.size ≤ gb218))
                                  have n6_ := A_ ((by rw [hg]; exact (below_size (by repeat (first | (with_reducible first | exact HB.out | apply pA_ | apply pN_ | apply pD_ | refine bs_ ?_ GE208.out | refine bs_ ?_ GE209.out | refine bs_ ?_ GE219.out) | exact HB.out))) : w.heap.size ≤ gb218))
                                  have n7_ := A_ ((by rw [hg]; exact Nat.ne_of_lt (blk_lt (g := gb208) (o := .cells #[.int .i64 a0_0, .slice A0_1 l0_1.length c0_1] 32 (0, 0)) (by (with_reducible repeat (first | refine bN_ ?_ _ | refine bD_ ?_ | refine bA_ ?_ _)); exact BK208.out)) : gb208 ≠ gb218))
                                  have n8_ := A_ ((by rw [hg]; exact Nat.ne_of_gt (blk_lt (g := gb208) (o := .cells #[.int .i64 a0_0, .slice A0_1 l0_1.length c0_1] 32 (0, 0)) (by (with_reducible repeat (first | refine bN_ ?_ _ | refine bD_ ?_ | refine bA_ ?_ _)); exact BK208.out)) : gb218 ≠ gb208))
                                  have n9_ := A_ ((by rw [hg]; exact Nat.ne_of_lt (blk_lt (g := gb209) (o := .cells #[.int .i64 a1_0, .slice A1_1 l1_1.length c1_1] 32 (0, 0)) (by (with_reducible repeat (first | refine bN_ ?_ _ | refine bD_ ?_ | refine bA_ ?_ _)); exact BK209.out)) : gb209 ≠ gb218))
                                  have n10_ := A_ ((by rw [hg]; exact Nat.ne_of_gt (blk_lt (g := gb209) (o := .cells #[.int .i64 a1_0, .slice A1_1 l1_1.length c1_1] 32 (0, 0)) (by (with_reducible repeat (first | refine bN_ ?_ _ | refine bD_ ?_ | refine bA_ ?_ _)); exact BK209.out)) : gb218 ≠ gb209))
                                  have n11_ := A_ ((by rw [hg]; exact Nat.ne_of_lt (blk_lt (g := gb219) (o := .cells #[.int .i64 0, .slice none 0 0] 32 (0, 0)) (by (with_reducible repeat (first | refine bN_ ?_ _ | refine bD_ ?_ | refine bA_ ?_ _)); exact BK219.out)) : gb219 ≠ gb218))
                                  have n12_ := A_ ((by rw [hg]; exact Nat.ne_of_gt (blk_lt (g := gb219) (o := .cells #[.int .i64 0, .slice none 0 0] 32 (0, 0)) (by (with_reducible repeat (first | refine bN_ ?_ _ | refine bD_ ?_ | refine bA_ ?_ _)); exact BK219.out)) : gb218 ≠ gb219))
                                  clear BK208
                                  clear BK209
                                  clear BK219
                                  clear HB
                                  have BK208 := n0_
                                  have BK209 := n1_
                                  have BK219 := n2_
                                  have HB := n3_
                                  have BK218 := n4_
                                  have GW218 := n5_
                                  have GE218 := n6_
                                  have NB208_218 := n7_
                                  have NB218_208 := n8_
                                  have NB209_218 := n9_
                                  have NB218_209 := n10_
                                  have NB219_218 := n11_
                                  have NB218_219 := n12_
                                  clear n0_ n1_ n2_ n3_ n4_ n5_ n6_ n7_ n8_ n9_ n10_ n11_ n12_
                                  clear hb hbox hg
                                  refine hK.out _ _ ⟨(bc_ BK208.out 0).trans rfl, (bc_ BK208.out 1).trans rfl, (bc_ BK209.out 0).trans rfl, (bc_ BK209.out 1).trans rfl⟩ (fun hHeld => ?_)
                                  clear hK K
                                  refine norm_ (a' := ?_) ?_ ?_
                                  rotate_left
                                  · show Act.put _ (some 5) _ = _
                                    simp only [Act.put, l1_, l2_, l3_, i64_w, i32_w]
                                    rfl
                                  exact norm_ (by first | (simp only [putAll, Act.put, l1_, l2_, l3_]; done) | (simp only [putAll, Act.put, l1_, l2_, l3_]; rfl)) (hJ4_5 (gb218, gb219) _ ⟨hHeld, (by (with_reducible repeat (first | refine bN_ ?_ _ | refine bD_ ?_ | refine bA_ ?_ _)); exact BK208.out), (by (with_reducible repeat (first | refine bN_ ?_ _ | refine bD_ ?_ | refine bA_ ?_ _)); exact BK209.out), (by (with_reducible repeat (first | refine bN_ ?_ _ | refine bD_ ?_ | refine bA_ ?_ _)); exact BK218.out), (by (with_reducible repeat (first | refine bN_ ?_ _ | refine bD_ ?_ | refine bA_ ?_ _)); exact BK219.out), GW218.out, GE218.out, NB208_218.out, NB218_208.out, NB209_218.out, NB218_209.out, NB219_218.out, NB218_219.out, GW219.out, GE219.out, NB208_219.out, NB219_208.out, NB209_219.out, NB219_209.out, (by repeat (first | (with_reducible first | exact HB.out | apply pA_ | apply pN_ | apply pD_ | refine bs_ ?_ GE208.out | refine bs_ ?_ GE209.out | refine bs_ ?_ GE219.out | refine bs_ ?_ GE218.out) | exact HB.out))⟩)
                            · skip
                              rintro gb218 w24 ⟨hS_, h0_, h1_, h2_, h3_, h4_, h5_, h6_, h7_, h8_, h9_⟩
                              have n0_ : Aside0 (w24.heap[gb208]? = some (.cells #[.int .i64 a0_0, .slice A0_1 l0_1.length c0_1] 32 (0, 0))) := ⟨h0_⟩
                              have n1_ : Aside0 (w24.heap[gb209]? = some (.cells #[.int .i64 a1_0, .slice A1_1 l1_1.length c1_1] 32 (0, 0))) := ⟨h1_⟩
                              have n2_ : Aside0 (w24.heap[gb218]? = some (.cells #[.int .i64 0, .slice none 0 0] 32 (0, 0))) := ⟨h2_⟩
                              have n3_ : Aside0 (w.heap.size ≤ gb218) := ⟨h3_⟩
                              have n4_ : Aside0 (w.heap.size ≤ gb218) := ⟨h4_⟩
                              have n5_ : Aside0 (gb208 ≠ gb218) := ⟨h5_⟩
                              have n6_ : Aside0 (gb218 ≠ gb208) := ⟨h6_⟩
                              have n7_ : Aside0 (gb209 ≠ gb218) := ⟨h7_⟩
                              have n8_ : Aside0 (gb218 ≠ gb209) := ⟨h8_⟩
                              have n9_ : Aside0 (Below w.heap.size w w24) := ⟨h9_⟩
                              clear BK208
                              clear BK209
                              clear HB
                              clear h0_ h1_ h2_ h3_ h4_ h5_ h6_ h7_ h8_ h9_
                              have BK208 := n0_
                              have BK209 := n1_
                              have BK218 := n2_
                              have GW218 := n3_
                              have GE218 := n4_
                              have NB208_218 := n5_
                              have NB218_208 := n6_
                              have NB209_218 := n7_
                              have NB218_209 := n8_
                              have HB := n9_
                              clear n0_ n1_ n2_ n3_ n4_ n5_ n6_ n7_ n8_ n9_
                              have hHeld : w24.cell? ⟨gb208, 0, none⟩ = some (.int .i64 a0_0) ∧ w24.cell? ⟨gb208, 1, none⟩ = some (.slice A0_1 l0_1.length c0_1) ∧ w24.cell? ⟨gb209, 0, none⟩ = some (.int .i64 a1_0) ∧ w24.cell? ⟨gb209, 1, none⟩ = some (.slice A1_1 l1_1.length c1_1) := hS_
                              refine norm_ (a' := ?_) ?_ ?_
                              rotate_left
                              · simp only [putAll, Act.put, l1_, l2_, l3_]
                                rfl
                              refine two_ (i := 1) (j := 5) (Ni := some 11) (Nj := some 6) #[true, true, true, false, true, false, false, false] #[true, false, true, false, true, true, false, false] rfl rfl rfl rfl (two_of HT_.out (by kernel_rfl)) (by decide) (by decide) (fun K hK => ?_) (fun K hK => ?_)
                              · skip
                                refine goes_ Try.func18 (by kernel_rfl) rfl #[.agg #[.int .i64 a0_0, .slice A0_1 l0_1.length c0_1]] (by rfl) rfl rfl (by (try simp only [List.map_toArray, List.map_cons, List.map_nil]); first | done | rfl | (simp only [List.length_drop, List.length_take]; rfl)) ?_
                                with_reducible refine (hawserlaw16_twin.callsV a0_0 _ _ l0_1 t210 t211 _ ?side1 ?side2 A3.out).mono ?_
                                (case side1 => repeat (first | exact (Kd.C_below HR0_1.out HB.out) | (with_reducible refine Kd.C_alloc ?_ _) | (with_reducible refine Kd.C_drewN ?_ _) | (with_reducible refine Kd.C_drew ?_)))
                                (case side2 => exact HC0_1.out)
                                rintro e w25 ⟨v212, rfl, ho0, hb⟩
                                refine ⟨_, rfl, ?_⟩
                                have n0_ := A_ (Tw.V_lower (Tw.V_mono (ok' := fun k_ => k_ ≠ gb208 ∧ k_ ≠ gb209 ∧ k_ ≠ gb218) ho0 (fun k_ hk_ => ⟨(Kd.freshB (g := gb208) (o := .cells #[.int .i64 a0_0, .slice A0_1 l0_1.length c0_1] 32 (0, 0)) (by (with_reducible repeat (first | refine bN_ ?_ _ | refine bD_ ?_ | refine bA_ ?_ _)); exact BK208.out) k_ hk_), (Kd.freshB (g := gb209) (o := .cells #[.int .i64 a1_0, .slice A1_1 l1_1.length c1_1] 32 (0, 0)) (by (with_reducible repeat (first | refine bN_ ?_ _ | refine bD_ ?_ | refine bA_ ?_ _)); exact BK209.out) k_ hk_), (Kd.freshB (g := gb218) (o := .cells #[.int .i64 0, .slice none 0 0] 32 (0, 0)) (by (with_reducible repeat (first | refine bN_ ?_ _ | refine bD_ ?_ | refine bA_ ?_ _)); exact BK218.out) k_ hk_)⟩)) (below_size (by repeat (first | (with_reducible first | exact HB.out | apply pA_ | apply pN_ | apply pD_ | refine bs_ ?_ GE208.out | refine bs_ ?_ GE209.out | refine bs_ ?_ GE218.out) | exact HB.out))))
                                have n1_ := A_ (blk_below (g := gb208) (o := .cells #[.int .i64 a0_0, .slice A0_1 l0_1.length c0_1] 32 (0, 0)) (by (with_reducible repeat (first | refine bN_ ?_ _ | refine bD_ ?_ | refine bA_ ?_ _)); exact BK208.out) hb)
                                have n2_ := A_ (blk_below (g := gb209) (o := .cells #[.int .i64 a1_0, .slice A1_1 l1_1.length c1_1] 32 (0, 0)) (by (with_reducible repeat (first | refine bN_ ?_ _ | refine bD_ ?_ | refine bA_ ?_ _)); exact BK209.out) hb)
                                have n3_ := A_ (blk_below (g := gb218) (o := .cells #[.int .i64 0, .slice none 0 0] 32 (0, 0)) (by (with_reducible repeat (first | refine bN_ ?_ _ | refine bD_ ?_ | refine bA_ ?_ _)); exact BK218.out) hb)
                                have n4_ := A_ (below_step (by repeat (first | (with_reducible first | exact HB.out | apply pA_ | apply pN_ | apply pD_ | refine bs_ ?_ GE208.out | refine bs_ ?_ GE209.out | refine bs_ ?_ GE218.out) | exact HB.out)) hb)
                                clear BK208
                                clear BK209
                                clear BK218
                                clear HB
                                have HO213 := n0_
                                have BK208 := n1_
                                have BK209 := n2_
                                have BK218 := n3_
                                have HB := n4_
                                clear n0_ n1_ n2_ n3_ n4_
                                (try clear hb)
                                (try clear hb2)
                                (try clear hk)
                                (try clear hi)
                                (try clear ho0)
                                refine hK.out _ _ ⟨(bc_ BK208.out 0).trans rfl, (bc_ BK208.out 1).trans rfl, (bc_ BK209.out 0).trans rfl, (bc_ BK209.out 1).trans rfl⟩ (fun hHeld => ?_)
                                clear hK K
                                refine norm_ (a' := ?_) ?_ ?_
                                rotate_left
                                · show Act.put _ (some 11) _ = _
                                  simp only [Act.put, l1_, l2_, l3_, i64_w, i32_w]
                                  rfl
                                exact norm_ (by first | (simp only [putAll, Act.put, l1_, l2_, l3_]; done) | (simp only [putAll, Act.put, l1_, l2_, l3_]; rfl)) (hJ1_4 (v212, gb218) _ ⟨hHeld, (by (with_reducible repeat (first | apply Tw.V_alloc | apply Tw.V_drewN | apply Tw.V_drew)); exact HO213.out), (by (with_reducible repeat (first | refine bN_ ?_ _ | refine bD_ ?_ | refine bA_ ?_ _)); exact BK208.out), (by (with_reducible repeat (first | refine bN_ ?_ _ | refine bD_ ?_ | refine bA_ ?_ _)); exact BK209.out), (by (with_reducible repeat (first | refine bN_ ?_ _ | refine bD_ ?_ | refine bA_ ?_ _)); exact BK218.out), GW218.out, GE218.out, NB208_218.out, NB218_208.out, NB209_218.out, NB218_209.out, (by repeat (first | (with_reducible first | exact HB.out | apply pA_ | apply pN_ | apply pD_ | refine bs_ ?_ GE208.out | refine bs_ ?_ GE209.out | refine bs_ ?_ GE218.out) | exact HB.out))⟩)
                              · skip
                                refine box_step ?hg (N := 6) ?hd (cs := #[.int .i64 0, .slice none 0 0]) (t := 32) ?hr ?_; (case hd => rfl); (case hg => rfl); (case hr => first | (go_simp; done) | (go_simp; rfl))
                                intro gb219 hg w25 hbox hb
                                have n0_ := A_ (blk_below (g := gb208) (o := .cells #[.int .i64 a0_0, .slice A0_1 l0_1.length c0_1] 32 (0, 0)) (by (with_reducible repeat (first | refine bN_ ?_ _ | refine bD_ ?_ | refine bA_ ?_ _)); exact BK208.out) hb)
                                have n1_ := A_ (blk_below (g := gb209) (o := .cells #[.int .i64 a1_0, .slice A1_1 l1_1.length c1_1] 32 (0, 0)) (by (with_reducible repeat (first | refine bN_ ?_ _ | refine bD_ ?_ | refine bA_ ?_ _)); exact BK209.out) hb)
                                have n2_ := A_ (blk_below (g := gb218) (o := .cells #[.int .i64 0, .slice none 0 0] 32 (0, 0)) (by (with_reducible repeat (first | refine bN_ ?_ _ | refine bD_ ?_ | refine bA_ ?_ _)); exact BK218.out) hb)
                                have n3_ := A_ (below_step (by repeat (first | (with_reducible first | exact HB.out | apply pA_ | apply pN_ | apply pD_ | refine bs_ ?_ GE208.out | refine bs_ ?_ GE209.out | refine bs_ ?_ GE218.out) | exact HB.out)) hb)
                                have n4_ := A_ (hbox)
                                have n5_ := A_ ((by rw [hg]; exact (below_size (by repeat (first | (with_reducible first | exact HB.out | apply pA_ | apply pN_ | apply pD_ | refine bs_ ?_ GE208.out | refine bs_ ?_ GE209.out | refine bs_ ?_ GE218.out) | exact HB.out))) : w.heap.size ≤ gb219))
                                have n6_ := A_ ((by rw [hg]; exact (below_size (by repeat (first | (with_reducible first | exact HB.out | apply pA_ | apply pN_ | apply pD_ | refine bs_ ?_ GE208.out | refine bs_ ?_ GE209.out | refine bs_ ?_ GE218.out) | exact HB.out))) : w.heap.size ≤ gb219))
                                have n7_ := A_ ((by rw [hg]; exact Nat.ne_of_lt (blk_lt (g := gb208) (o := .cells #[.int .i64 a0_0, .slice A0_1 l0_1.length c0_1] 32 (0, 0)) (by (with_reducible repeat (first | refine bN_ ?_ _ | refine bD_ ?_ | refine bA_ ?_ _)); exact BK208.out)) : gb208 ≠ gb219))
                                have n8_ := A_ ((by rw [hg]; exact Nat.ne_of_gt (blk_lt (g := gb208) (o := .cells #[.int .i64 a0_0, .slice A0_1 l0_1.length c0_1] 32 (0, 0)) (by (with_reducible repeat (first | refine bN_ ?_ _ | refine bD_ ?_ | refine bA_ ?_ _)); exact BK208.out)) : gb219 ≠ gb208))
                                have n9_ := A_ ((by rw [hg]; exact Nat.ne_of_lt (blk_lt (g := gb209) (o := .cells #[.int .i64 a1_0, .slice A1_1 l1_1.length c1_1] 32 (0, 0)) (by (with_reducible repeat (first | refine bN_ ?_ _ | refine bD_ ?_ | refine bA_ ?_ _)); exact BK209.out)) : gb209 ≠ gb219))
                                have n10_ := A_ ((by rw [hg]; exact Nat.ne_of_gt (blk_lt (g := gb209) (o := .cells #[.int .i64 a1_0, .slice A1_1 l1_1.length c1_1] 32 (0, 0)) (by (with_reducible repeat (first | refine bN_ ?_ _ | refine bD_ ?_ | refine bA_ ?_ _)); exact BK209.out)) : gb219 ≠ gb209))
                                have n11_ := A_ ((by rw [hg]; exact Nat.ne_of_lt (blk_lt (g := gb218) (o := .cells #[.int .i64 0, .slice none 0 0] 32 (0, 0)) (by (with_reducible repeat (first | refine bN_ ?_ _ | refine bD_ ?_ | refine bA_ ?_ _)); exact BK218.out)) : gb218 ≠ gb219))
                                have n12_ := A_ ((by rw [hg]; exact Nat.ne_of_gt (blk_lt (g := gb218) (o := .cells #[.int .i64 0, .slice none 0 0] 32 (0, 0)) (by (with_reducible repeat (first | refine bN_ ?_ _ | refine bD_ ?_ | refine bA_ ?_ _)); exact BK218.out)) : gb219 ≠ gb218))
                                clear BK208
                                clear BK209
                                clear BK218
                                clear HB
                                have BK208 := n0_
                                have BK209 := n1_
                                have BK218 := n2_
                                have HB := n3_
                                have BK219 := n4_
                                have GW219 := n5_
                                have GE219 := n6_
                                have NB208_219 := n7_
                                have NB219_208 := n8_
                                have NB209_219 := n9_
                                have NB219_209 := n10_
                                have NB218_219 := n11_
                                have NB219_218 := n12_
                                clear n0_ n1_ n2_ n3_ n4_ n5_ n6_ n7_ n8_ n9_ n10_ n11_ n12_
                                clear hb hbox hg
                                refine hK.out _ _ ⟨(bc_ BK208.out 0).trans rfl, (bc_ BK208.out 1).trans rfl, (bc_ BK209.out 0).trans rfl, (bc_ BK209.out 1).trans rfl⟩ (fun hHeld => ?_)
                                clear hK K
                                refine norm_ (a' := ?_) ?_ ?_
                                rotate_left
                                · show Act.put _ (some 6) _ = _
                                  simp only [Act.put, l1_, l2_, l3_, i64_w, i32_w]
                                  rfl
                                exact norm_ (by first | (simp only [putAll, Act.put, l1_, l2_, l3_]; done) | (simp only [putAll, Act.put, l1_, l2_, l3_]; rfl)) (hJ4_5 (gb218, gb219) _ ⟨hHeld, (by (with_reducible repeat (first | refine bN_ ?_ _ | refine bD_ ?_ | refine bA_ ?_ _)); exact BK208.out), (by (with_reducible repeat (first | refine bN_ ?_ _ | refine bD_ ?_ | refine bA_ ?_ _)); exact BK209.out), (by (with_reducible repeat (first | refine bN_ ?_ _ | refine bD_ ?_ | refine bA_ ?_ _)); exact BK218.out), (by (with_reducible repeat (first | refine bN_ ?_ _ | refine bD_ ?_ | refine bA_ ?_ _)); exact BK219.out), GW218.out, GE218.out, NB208_218.out, NB218_208.out, NB209_218.out, NB218_209.out, NB219_218.out, NB218_219.out, GW219.out, GE219.out, NB208_219.out, NB219_208.out, NB209_219.out, NB219_209.out, (by repeat (first | (with_reducible first | exact HB.out | apply pA_ | apply pN_ | apply pD_ | refine bs_ ?_ GE208.out | refine bs_ ?_ GE209.out | refine bs_ ?_ GE218.out | refine bs_ ?_ GE219.out) | exact HB.out))⟩)
                          · skip
                            rintro v212 w24 ⟨hS_, h0_, h1_, h2_, h3_⟩
                            have n0_ : Aside0 (Tw.V (Kd.int .i64) 3 w24 w.heap.size (fun k_ => k_ ≠ gb208 ∧ k_ ≠ gb209) v212 t211) := ⟨h0_⟩
                            have n1_ : Aside0 (w24.heap[gb208]? = some (.cells #[.int .i64 a0_0, .slice A0_1 l0_1.length c0_1] 32 (0, 0))) := ⟨h1_⟩
                            have n2_ : Aside0 (w24.heap[gb209]? = some (.cells #[.int .i64 a1_0, .slice A1_1 l1_1.length c1_1] 32 (0, 0))) := ⟨h2_⟩
                            have n3_ : Aside0 (Below w.heap.size w w24) := ⟨h3_⟩
                            clear BK208
                            clear BK209
                            clear HB
                            clear h0_ h1_ h2_ h3_
                            have HO213 := n0_
                            have BK208 := n1_
                            have BK209 := n2_
                            have HB := n3_
                            clear n0_ n1_ n2_ n3_
                            have hHeld : w24.cell? ⟨gb208, 0, none⟩ = some (.int .i64 a0_0) ∧ w24.cell? ⟨gb208, 1, none⟩ = some (.slice A0_1 l0_1.length c0_1) ∧ w24.cell? ⟨gb209, 0, none⟩ = some (.int .i64 a1_0) ∧ w24.cell? ⟨gb209, 1, none⟩ = some (.slice A1_1 l1_1.length c1_1) := hS_
                            refine norm_ (a' := ?_) ?_ ?_
                            rotate_left
                            · simp only [putAll, Act.put, l1_, l2_, l3_]
                              rfl
                            refine three_ (i := 3) (j := 4) (k := 5) (Ni := some 13) (Nj := some 5) (Nk := some 6) #[true, true, true, true, false, false, false, false] #[true, true, true, false, true, false, false, false] #[true, true, true, false, false, true, false, false] rfl rfl rfl rfl rfl rfl (three_of HT_.out (by kernel_rfl)) (by decide) (by decide) (by decide) (fun K hK => ?_) (fun K hK => ?_) (fun K hK => ?_)
                            · skip
                              refine goes_ Try.func18 (by kernel_rfl) rfl #[.agg #[.int .i64 a1_0, .slice A1_1 l1_1.length c1_1]] (by rfl) rfl rfl (by (try simp only [List.map_toArray, List.map_cons, List.map_nil]); first | done | rfl | (simp only [List.length_drop, List.length_take]; rfl)) ?_
                              with_reducible refine (hawserlaw16_twin.callsV a1_0 _ _ l1_1 t214 t215 _ ?side1 ?side2 A4.out).mono ?_
                              (case side1 => repeat (first | exact (Kd.C_below HR1_1.out HB.out) | (with_reducible refine Kd.C_alloc ?_ _) | (with_reducible refine Kd.C_drewN ?_ _) | (with_reducible refine Kd.C_drew ?_)))
                              (case side2 => exact HC1_1.out)
                              rintro e w25 ⟨v216, rfl, ho0, hb⟩
                              refine ⟨_, rfl, ?_⟩
                              have n0_ := A_ (Tw.V_below (by (with_reducible repeat (first | apply Tw.V_alloc | apply Tw.V_drewN | apply Tw.V_drew)); exact HO213.out) hb)
                              have n1_ := A_ (Tw.V_lower (Tw.V_mono (ok' := fun k_ => k_ ≠ gb208 ∧ k_ ≠ gb209) ho0 (fun k_ hk_ => ⟨(Kd.freshB (g := gb208) (o := .cells #[.int .i64 a0_0, .slice A0_1 l0_1.length c0_1] 32 (0, 0)) (by (with_reducible repeat (first | refine bN_ ?_ _ | refine bD_ ?_ | refine bA_ ?_ _)); exact BK208.out) k_ hk_), (Kd.freshB (g := gb209) (o := .cells #[.int .i64 a1_0, .slice A1_1 l1_1.length c1_1] 32 (0, 0)) (by (with_reducible repeat (first | refine bN_ ?_ _ | refine bD_ ?_ | refine bA_ ?_ _)); exact BK209.out) k_ hk_)⟩)) (below_size (by repeat (first | (with_reducible first | exact HB.out | apply pA_ | apply pN_ | apply pD_ | refine bs_ ?_ GE208.out | refine bs_ ?_ GE209.out) | exact HB.out))))
                              have n2_ := A_ (blk_below (g := gb208) (o := .cells #[.int .i64 a0_0, .slice A0_1 l0_1.length c0_1] 32 (0, 0)) (by (with_reducible repeat (first | refine bN_ ?_ _ | refine bD_ ?_ | refine bA_ ?_ _)); exact BK208.out) hb)
                              have n3_ := A_ (blk_below (g := gb209) (o := .cells #[.int .i64 a1_0, .slice A1_1 l1_1.length c1_1] 32 (0, 0)) (by (with_reducible repeat (first | refine bN_ ?_ _ | refine bD_ ?_ | refine bA_ ?_ _)); exact BK209.out) hb)
                              have n4_ := A_ (below_step (by repeat (first | (with_reducible first | exact HB.out | apply pA_ | apply pN_ | apply pD_ | refine bs_ ?_ GE208.out | refine bs_ ?_ GE209.out) | exact HB.out)) hb)
                              clear HO213
                              clear BK208
                              clear BK209
                              clear HB
                              have HO213 := n0_
                              have HO217 := n1_
                              have BK208 := n2_
                              have BK209 := n3_
                              have HB := n4_
                              clear n0_ n1_ n2_ n3_ n4_
                              (try clear hb)
                              (try clear hb2)
                              (try clear hk)
                              (try clear hi)
                              (try clear ho0)
                              refine hK.out _ _ ⟨(bc_ BK208.out 0).trans rfl, (bc_ BK208.out 1).trans rfl, (bc_ BK209.out 0).trans rfl, (bc_ BK209.out 1).trans rfl⟩ (fun hHeld => ?_)
                              clear hK K
                              refine norm_ (a' := ?_) ?_ ?_
                              rotate_left
                              · show Act.put _ (some 13) _ = _
                                simp only [Act.put, l1_, l2_, l3_, i64_w, i32_w]
                                rfl
                              exact norm_ (by first | (simp only [putAll, Act.put, l1_, l2_, l3_]; done) | (simp only [putAll, Act.put, l1_, l2_, l3_]; rfl)) (hJ1_3 (v212, v216) _ ⟨hHeld, (by (with_reducible repeat (first | apply Tw.V_alloc | apply Tw.V_drewN | apply Tw.V_drew)); exact HO213.out), (by (with_reducible repeat (first | apply Tw.V_alloc | apply Tw.V_drewN | apply Tw.V_drew)); exact HO217.out), (by (with_reducible repeat (first | refine bN_ ?_ _ | refine bD_ ?_ | refine bA_ ?_ _)); exact BK208.out), (by (with_reducible repeat (first | refine bN_ ?_ _ | refine bD_ ?_ | refine bA_ ?_ _)); exact BK209.out), (by repeat (first | (with_reducible first | exact HB.out | apply pA_ | apply pN_ | apply pD_ | refine bs_ ?_ GE208.out | refine bs_ ?_ GE209.out) | exact HB.out))⟩)
                            · skip
                              refine box_step ?hg (N := 5) ?hd (cs := #[.int .i64 0, .slice none 0 0]) (t := 32) ?hr ?_; (case hd => rfl); (case hg => rfl); (case hr => first | (go_simp; done) | (go_simp; rfl))
                              intro gb218 hg w25 hbox hb
                              have n0_ := A_ (Tw.V_below (Tw.V_elderB (by (with_reducible repeat (first | apply Tw.V_alloc | apply Tw.V_drewN | apply Tw.V_drew)); exact HO213.out) gb218 (Nat.le_of_eq hg.symm)) hb)
                              have n1_ := A_ (blk_below (g := gb208) (o := .cells #[.int .i64 a0_0, .slice A0_1 l0_1.length c0_1] 32 (0, 0)) (by (with_reducible repeat (first | refine bN_ ?_ _ | refine bD_ ?_ | refine bA_ ?_ _)); exact BK208.out) hb)
                              have n2_ := A_ (blk_below (g := gb209) (o := .cells #[.int .i64 a1_0, .slice A1_1 l1_1.length c1_1] 32 (0, 0)) (by (with_reducible repeat (first | refine bN_ ?_ _ | refine bD_ ?_ | refine bA_ ?_ _)); exact BK209.out) hb)
                              have n3_ := A_ (below_step (by repeat (first | (with_reducible first | exact HB.out | apply pA_ | apply pN_ | apply pD_ | refine bs_ ?_ GE208.out | refine bs_ ?_ GE209.out) | exact HB.out)) hb)
                              have n4_ := A_ (hbox)
                              have n5_ := A_ ((by rw [hg]; exact (below_size (by repeat (first | (with_reducible first | exact HB.out | apply pA_ | apply pN_ | apply pD_ | refine bs_ ?_ GE208.out | refine bs_ ?_ GE209.out) | exact HB.out))) : w.heap.size ≤ gb218))
                              have n6_ := A_ ((by rw [hg]; exact (below_size (by repeat (first | (with_reducible first | exact HB.out | apply pA_ | apply pN_ | apply pD_ | refine bs_ ?_ GE208.out | refine bs_ ?_ GE209.out) | exact HB.out))) : w.heap.size ≤ gb218))
                              have n7_ := A_ ((by rw [hg]; exact Nat.ne_of_lt (blk_lt (g := gb208) (o := .cells #[.int .i64 a0_0, .slice A0_1 l0_1.length c0_1] 32 (0, 0)) (by (with_reducible repeat (first | refine bN_ ?_ _ | refine bD_ ?_ | refine bA_ ?_ _)); exact BK208.out)) : gb208 ≠ gb218))
                              have n8_ := A_ ((by rw [hg]; exact Nat.ne_of_gt (blk_lt (g := gb208) (o := .cells #[.int .i64 a0_0, .slice A0_1 l0_1.length c0_1] 32 (0, 0)) (by (with_reducible repeat (first | refine bN_ ?_ _ | refine bD_ ?_ | refine bA_ ?_ _)); exact BK208.out)) : gb218 ≠ gb208))
                              have n9_ := A_ ((by rw [hg]; exact Nat.ne_of_lt (blk_lt (g := gb209) (o := .cells #[.int .i64 a1_0, .slice A1_1 l1_1.length c1_1] 32 (0, 0)) (by (with_reducible repeat (first | refine bN_ ?_ _ | refine bD_ ?_ | refine bA_ ?_ _)); exact BK209.out)) : gb209 ≠ gb218))
                              have n10_ := A_ ((by rw [hg]; exact Nat.ne_of_gt (blk_lt (g := gb209) (o := .cells #[.int .i64 a1_0, .slice A1_1 l1_1.length c1_1] 32 (0, 0)) (by (with_reducible repeat (first | refine bN_ ?_ _ | refine bD_ ?_ | refine bA_ ?_ _)); exact BK209.out)) : gb218 ≠ gb209))
                              clear HO213
                              clear BK208
                              clear BK209
                              clear HB
                              have HO213 := n0_
                              have BK208 := n1_
                              have BK209 := n2_
                              have HB := n3_
                              have BK218 := n4_
                              have GW218 := n5_
                              have GE218 := n6_
                              have NB208_218 := n7_
                              have NB218_208 := n8_
                              have NB209_218 := n9_
                              have NB218_209 := n10_
                              clear n0_ n1_ n2_ n3_ n4_ n5_ n6_ n7_ n8_ n9_ n10_
                              clear hb hbox hg
                              refine hK.out _ _ ⟨(bc_ BK208.out 0).trans rfl, (bc_ BK208.out 1).trans rfl, (bc_ BK209.out 0).trans rfl, (bc_ BK209.out 1).trans rfl⟩ (fun hHeld => ?_)
                              clear hK K
                              refine norm_ (a' := ?_) ?_ ?_
                              rotate_left
                              · show Act.put _ (some 5) _ = _
                                simp only [Act.put, l1_, l2_, l3_, i64_w, i32_w]
                                rfl
                              exact norm_ (by first | (simp only [putAll, Act.put, l1_, l2_, l3_]; done) | (simp only [putAll, Act.put, l1_, l2_, l3_]; rfl)) (hJ1_4 (v212, gb218) _ ⟨hHeld, (by (with_reducible repeat (first | apply Tw.V_alloc | apply Tw.V_drewN | apply Tw.V_drew)); exact Tw.V_mono HO213.out (fun _ hk => ⟨hk.1.1, ⟨hk.1.2, hk.2⟩⟩)), (by (with_reducible repeat (first | refine bN_ ?_ _ | refine bD_ ?_ | refine bA_ ?_ _)); exact BK208.out), (by (with_reducible repeat (first | refine bN_ ?_ _ | refine bD_ ?_ | refine bA_ ?_ _)); exact BK209.out), (by (with_reducible repeat (first | refine bN_ ?_ _ | refine bD_ ?_ | refine bA_ ?_ _)); exact BK218.out), GW218.out, GE218.out, NB208_218.out, NB218_208.out, NB209_218.out, NB218_209.out, (by repeat (first | (with_reducible first | exact HB.out | apply pA_ | apply pN_ | apply pD_ | refine bs_ ?_ GE208.out | refine bs_ ?_ GE209.out | refine bs_ ?_ GE218.out) | exact HB.out))⟩)
                            · skip
                              refine box_step ?hg (N := 6) ?hd (cs := #[.int .i64 0, .slice none 0 0]) (t := 32) ?hr ?_; (case hd => rfl); (case hg => rfl); (case hr => first | (go_simp; done) | (go_simp; rfl))
                              intro gb219 hg w25 hbox hb
                              have n0_ := A_ (Tw.V_below (Tw.V_elderB (by (with_reducible repeat (first | apply Tw.V_alloc | apply Tw.V_drewN | apply Tw.V_drew)); exact HO213.out) gb219 (Nat.le_of_eq hg.symm)) hb)
                              have n1_ := A_ (blk_below (g := gb208) (o := .cells #[.int .i64 a0_0, .slice A0_1 l0_1.length c0_1] 32 (0, 0)) (by (with_reducible repeat (first | refine bN_ ?_ _ | refine bD_ ?_ | refine bA_ ?_ _)); exact BK208.out) hb)
                              have n2_ := A_ (blk_below (g := gb209) (o := .cells #[.int .i64 a1_0, .slice A1_1 l1_1.length c1_1] 32 (0, 0)) (by (with_reducible repeat (first | refine bN_ ?_ _ | refine bD_ ?_ | refine bA_ ?_ _)); exact BK209.out) hb)
                              have n3_ := A_ (below_step (by repeat (first | (with_reducible first | exact HB.out | apply pA_ | apply pN_ | apply pD_ | refine bs_ ?_ GE208.out | refine bs_ ?_ GE209.out) | exact HB.out)) hb)
                              have n4_ := A_ (hbox)
                              have n5_ := A_ ((by rw [hg]; exact (below_size (by repeat (first | (with_reducible first | exact HB.out | apply pA_ | apply pN_ | apply pD_ | refine bs_ ?_ GE208.out | refine bs_ ?_ GE209.out) | exact HB.out))) : w.heap.size ≤ gb219))
                              have n6_ := A_ ((by rw [hg]; exact (below_size (by repeat (first | (with_reducible first | exact HB.out | apply pA_ | apply pN_ | apply pD_ | refine bs_ ?_ GE208.out | refine bs_ ?_ GE209.out) | exact HB.out))) : w.heap.size ≤ gb219))
                              have n7_ := A_ ((by rw [hg]; exact Nat.ne_of_lt (blk_lt (g := gb208) (o := .cells #[.int .i64 a0_0, .slice A0_1 l0_1.length c0_1] 32 (0, 0)) (by (with_reducible repeat (first | refine bN_ ?_ _ | refine bD_ ?_ | refine bA_ ?_ _)); exact BK208.out)) : gb208 ≠ gb219))
                              have n8_ := A_ ((by rw [hg]; exact Nat.ne_of_gt (blk_lt (g := gb208) (o := .cells #[.int .i64 a0_0, .slice A0_1 l0_1.length c0_1] 32 (0, 0)) (by (with_reducible repeat (first | refine bN_ ?_ _ | refine bD_ ?_ | refine bA_ ?_ _)); exact BK208.out)) : gb219 ≠ gb208))
                              have n9_ := A_ ((by rw [hg]; exact Nat.ne_of_lt (blk_lt (g := gb209) (o := .cells #[.int .i64 a1_0, .slice A1_1 l1_1.length c1_1] 32 (0, 0)) (by (with_reducible repeat (first | refine bN_ ?_ _ | refine bD_ ?_ | refine bA_ ?_ _)); exact BK209.out)) : gb209 ≠ gb219))
                              have n10_ := A_ ((by rw [hg]; exact Nat.ne_of_gt (blk_lt (g := gb209) (o := .cells #[.int .i64 a1_0, .slice A1_1 l1_1.length c1_1] 32 (0, 0)) (by (with_reducible repeat (first | refine bN_ ?_ _ | refine bD_ ?_ | refine bA_ ?_ _)); exact BK209.out)) : gb219 ≠ gb209))
                              clear HO213
                              clear BK208
                              clear BK209
                              clear HB
                              have HO213 := n0_
                              have BK208 := n1_
                              have BK209 := n2_
                              have HB := n3_
                              have BK219 := n4_
                              have GW219 := n5_
                              have GE219 := n6_
                              have NB208_219 := n7_
                              have NB219_208 := n8_
                              have NB209_219 := n9_
                              have NB219_209 := n10_
                              clear n0_ n1_ n2_ n3_ n4_ n5_ n6_ n7_ n8_ n9_ n10_
                              clear hb hbox hg
                              refine hK.out _ _ ⟨(bc_ BK208.out 0).trans rfl, (bc_ BK208.out 1).trans rfl, (bc_ BK209.out 0).trans rfl, (bc_ BK209.out 1).trans rfl⟩ (fun hHeld => ?_)
                              clear hK K
                              refine norm_ (a' := ?_) ?_ ?_
                              rotate_left
                              · show Act.put _ (some 6) _ = _
                                simp only [Act.put, l1_, l2_, l3_, i64_w, i32_w]
                                rfl
                              exact norm_ (by first | (simp only [putAll, Act.put, l1_, l2_, l3_]; done) | (simp only [putAll, Act.put, l1_, l2_, l3_]; rfl)) (hJ1_5 (v212, gb219) _ ⟨hHeld, (by (with_reducible repeat (first | apply Tw.V_alloc | apply Tw.V_drewN | apply Tw.V_drew)); exact Tw.V_mono HO213.out (fun _ hk => ⟨hk.1.1, ⟨hk.1.2, hk.2⟩⟩)), (by (with_reducible repeat (first | refine bN_ ?_ _ | refine bD_ ?_ | refine bA_ ?_ _)); exact BK208.out), (by (with_reducible repeat (first | refine bN_ ?_ _ | refine bD_ ?_ | refine bA_ ?_ _)); exact BK209.out), (by (with_reducible repeat (first | refine bN_ ?_ _ | refine bD_ ?_ | refine bA_ ?_ _)); exact BK219.out), GW219.out, GE219.out, NB208_219.out, NB219_208.out, NB209_219.out, NB219_209.out, (by repeat (first | (with_reducible first | exact HB.out | apply pA_ | apply pN_ | apply pD_ | refine bs_ ?_ GE208.out | refine bs_ ?_ GE209.out | refine bs_ ?_ GE219.out) | exact HB.out))⟩)
                        · skip
                          rintro ⟨gb218, gb219⟩ w25 ⟨hS_, h0_, h1_, h2_, h3_, h4_, h5_, h6_, h7_, h8_, h9_, h10_, h11_, h12_, h13_, h14_, h15_, h16_, h17_, h18_⟩
                          have n0_ : Aside0 (w25.heap[gb208]? = some (.cells #[.int .i64 a0_0, .slice A0_1 l0_1.length c0_1] 32 (0, 0))) := ⟨h0_⟩
                          have n1_ : Aside0 (w25.heap[gb209]? = some (.cells #[.int .i64 a1_0, .slice A1_1 l1_1.length c1_1] 32 (0, 0))) := ⟨h1_⟩
                          have n2_ : Aside0 (w25.heap[gb218]? = some (.cells #[.int .i64 0, .slice none 0 0] 32 (0, 0))) := ⟨h2_⟩
                          have n3_ : Aside0 (w25.heap[gb219]? = some (.cells #[.int .i64 0, .slice none 0 0] 32 (0, 0))) := ⟨h3_⟩
                          have n4_ : Aside0 (w.heap.size ≤ gb218) := ⟨h4_⟩
                          have n5_ : Aside0 (w.heap.size ≤ gb218) := ⟨h5_⟩
                          have n6_ : Aside0 (gb208 ≠ gb218) := ⟨h6_⟩
                          have n7_ : Aside0 (gb218 ≠ gb208) := ⟨h7_⟩
                          have n8_ : Aside0 (gb209 ≠ gb218) := ⟨h8_⟩
                          have n9_ : Aside0 (gb218 ≠ gb209) := ⟨h9_⟩
                          have n10_ : Aside0 (gb219 ≠ gb218) := ⟨h10_⟩
                          have n11_ : Aside0 (gb218 ≠ gb219) := ⟨h11_⟩
                          have n12_ : Aside0 (w.heap.size ≤ gb219) := ⟨h12_⟩
                          have n13_ : Aside0 (w.heap.size ≤ gb219) := ⟨h13_⟩
                          have n14_ : Aside0 (gb208 ≠ gb219) := ⟨h14_⟩
                          have n15_ : Aside0 (gb219 ≠ gb208) := ⟨h15_⟩
                          have n16_ : Aside0 (gb209 ≠ gb219) := ⟨h16_⟩
                          have n17_ : Aside0 (gb219 ≠ gb209) := ⟨h17_⟩
                          have n18_ : Aside0 (Below w.heap.size w w25) := ⟨h18_⟩
                          clear BK208
                          clear BK209
                          clear HB
                          clear h0_ h1_ h2_ h3_ h4_ h5_ h6_ h7_ h8_ h9_ h10_ h11_ h12_ h13_ h14_ h15_ h16_ h17_ h18_
                          have BK208 := n0_
                          have BK209 := n1_
                          have BK218 := n2_
                          have BK219 := n3_
                          have GW218 := n4_
                          have GE218 := n5_
                          have NB208_218 := n6_
                          have NB218_208 := n7_
                          have NB209_218 := n8_
                          have NB218_209 := n9_
                          have NB219_218 := n10_
                          have NB218_219 := n11_
                          have GW219 := n12_
                          have GE219 := n13_
                          have NB208_219 := n14_
                          have NB219_208 := n15_
                          have NB209_219 := n16_
                          have NB219_209 := n17_
                          have HB := n18_
                          clear n0_ n1_ n2_ n3_ n4_ n5_ n6_ n7_ n8_ n9_ n10_ n11_ n12_ n13_ n14_ n15_ n16_ n17_ n18_
                          have hHeld : w25.cell? ⟨gb208, 0, none⟩ = some (.int .i64 a0_0) ∧ w25.cell? ⟨gb208, 1, none⟩ = some (.slice A0_1 l0_1.length c0_1) ∧ w25.cell? ⟨gb209, 0, none⟩ = some (.int .i64 a1_0) ∧ w25.cell? ⟨gb209, 1, none⟩ = some (.slice A1_1 l1_1.length c1_1) := hS_
                          refine norm_ (a' := ?_) ?_ ?_
                          rotate_left
                          · simp only [putAll, Act.put, l1_, l2_, l3_]
                            rfl
                          refine one_ (i := 1) (N := some 11) #[true, true, true, false, true, true, false, false] rfl rfl (one_of HT_.out (by kernel_rfl)) (by decide) (fun K hK => ?_)
                          refine goes_ Try.func18 (by kernel_rfl) rfl #[.agg #[.int .i64 a0_0, .slice A0_1 l0_1.length c0_1]] (by rfl) rfl rfl (by (try simp only [List.map_toArray, List.map_cons, List.map_nil]); first | done | rfl | (simp only [List.length_drop, List.length_take]; rfl)) ?_
                          with_reducible refine (hawserlaw16_twin.callsV a0_0 _ _ l0_1 t210 t211 _ ?side1 ?side2 A3.out).mono ?_
                          (case side1 => repeat (first | exact (Kd.C_below HR0_1.out HB.out) | (with_reducible refine Kd.C_alloc ?_ _) | (with_reducible refine Kd.C_drewN ?_ _) | (with_reducible refine Kd.C_drew ?_)))
                          (case side2 => exact HC0_1.out)
                          rintro e w26 ⟨v212, rfl, ho0, hb⟩
                          refine ⟨_, rfl, ?_⟩
                          have n0_ := A_ (Tw.V_lower (Tw.V_mono (ok' := fun k_ => k_ ≠ gb208 ∧ k_ ≠ gb209 ∧ k_ ≠ gb218 ∧ k_ ≠ gb219) ho0 (fun k_ hk_ => ⟨(Kd.freshB (g := gb208) (o := .cells #[.int .i64 a0_0, .slice A0_1 l0_1.length c0_1] 32 (0, 0)) (by (with_reducible repeat (first | refine bN_ ?_ _ | refine bD_ ?_ | refine bA_ ?_ _)); exact BK208.out) k_ hk_), (Kd.freshB (g := gb209) (o := .cells #[.int .i64 a1_0, .slice A1_1 l1_1.length c1_1] 32 (0, 0)) (by (with_reducible repeat (first | refine bN_ ?_ _ | refine bD_ ?_ | refine bA_ ?_ _)); exact BK209.out) k_ hk_), (Kd.freshB (g := gb218) (o := .cells #[.int .i64 0, .slice none 0 0] 32 (0, 0)) (by (with_reducible repeat (first | refine bN_ ?_ _ | refine bD_ ?_ | refine bA_ ?_ _)); exact BK218.out) k_ hk_), (Kd.freshB (g := gb219) (o := .cells #[.int .i64 0, .slice none 0 0] 32 (0, 0)) (by (with_reducible repeat (first | refine bN_ ?_ _ | refine bD_ ?_ | refine bA_ ?_ _)); exact BK219.out) k_ hk_)⟩)) (below_size (by repeat (first | (with_reducible first | exact HB.out | apply pA_ | apply pN_ | apply pD_ | refine bs_ ?_ GE208.out | refine bs_ ?_ GE209.out | refine bs_ ?_ GE218.out | refine bs_ ?_ GE219.out) | exact HB.out))))
                          have n1_ := A_ (blk_below (g := gb208) (o := .cells #[.int .i64 a0_0, .slice A0_1 l0_1.length c0_1] 32 (0, 0)) (by (with_reducible repeat (first | refine bN_ ?_ _ | refine bD_ ?_ | refine bA_ ?_ _)); exact BK208.out) hb)
                          have n2_ := A_ (blk_below (g := gb209) (o := .cells #[.int .i64 a1_0, .slice A1_1 l1_1.length c1_1] 32 (0, 0)) (by (with_reducible repeat (first | refine bN_ ?_ _ | refine bD_ ?_ | refine bA_ ?_ _)); exact BK209.out) hb)
                          have n3_ := A_ (blk_below (g := gb218) (o := .cells #[.int .i64 0, .slice none 0 0] 32 (0, 0)) (by (with_reducible repeat (first | refine bN_ ?_ _ | refine bD_ ?_ | refine bA_ ?_ _)); exact BK218.out) hb)
                          have n4_ := A_ (blk_below (g := gb219) (o := .cells #[.int .i64 0, .slice none 0 0] 32 (0, 0)) (by (with_reducible repeat (first | refine bN_ ?_ _ | refine bD_ ?_ | refine bA_ ?_ _)); exact BK219.out) hb)
                          have n5_ := A_ (below_step (by repeat (first | (with_reducible first | exact HB.out | apply pA_ | apply pN_ | apply pD_ | refine bs_ ?_ GE208.out | refine bs_ ?_ GE209.out | refine bs_ ?_ GE218.out | refine bs_ ?_ GE219.out) | exact HB.out)) hb)
                          clear BK208
                          clear BK209
                          clear BK218
                          clear BK219
                          clear HB
                          have HO213 := n0_
                          have BK208 := n1_
                          have BK209 := n2_
                          have BK218 := n3_
                          have BK219 := n4_
                          have HB := n5_
                          clear n0_ n1_ n2_ n3_ n4_ n5_
                          (try clear hb)
                          (try clear hb2)
                          (try clear hk)
                          (try clear hi)
                          (try clear ho0)
                          refine hK.out _ _ ⟨(bc_ BK208.out 0).trans rfl, (bc_ BK208.out 1).trans rfl, (bc_ BK209.out 0).trans rfl, (bc_ BK209.out 1).trans rfl⟩ (fun hHeld => ?_)
                          clear hK K
                          refine norm_ (a' := ?_) ?_ ?_
                          rotate_left
                          · show Act.put _ (some 11) _ = _
                            simp only [Act.put, l1_, l2_, l3_, i64_w, i32_w]
                            rfl
                          exact norm_ (by first | (simp only [putAll, Act.put, l1_, l2_, l3_]; done) | (simp only [putAll, Act.put, l1_, l2_, l3_]; rfl)) (hJ1_4_5 (v212, gb218, gb219) _ ⟨hHeld, (by (with_reducible repeat (first | apply Tw.V_alloc | apply Tw.V_drewN | apply Tw.V_drew)); exact HO213.out), (by (with_reducible repeat (first | refine bN_ ?_ _ | refine bD_ ?_ | refine bA_ ?_ _)); exact BK208.out), (by (with_reducible repeat (first | refine bN_ ?_ _ | refine bD_ ?_ | refine bA_ ?_ _)); exact BK209.out), (by (with_reducible repeat (first | refine bN_ ?_ _ | refine bD_ ?_ | refine bA_ ?_ _)); exact BK218.out), (by (with_reducible repeat (first | refine bN_ ?_ _ | refine bD_ ?_ | refine bA_ ?_ _)); exact BK219.out), GW218.out, GE218.out, NB208_218.out, NB218_208.out, NB209_218.out, NB218_209.out, NB219_218.out, NB218_219.out, GW219.out, GE219.out, NB208_219.out, NB219_208.out, NB209_219.out, NB219_209.out, (by repeat (first | (with_reducible first | exact HB.out | apply pA_ | apply pN_ | apply pD_ | refine bs_ ?_ GE208.out | refine bs_ ?_ GE209.out | refine bs_ ?_ GE218.out | refine bs_ ?_ GE219.out) | exact HB.out))⟩)
                      · skip
                        rintro ⟨v212, gb219⟩ w25 ⟨hS_, h0_, h1_, h2_, h3_, h4_, h5_, h6_, h7_, h8_, h9_, h10_⟩
                        have n0_ : Aside0 (Tw.V (Kd.int .i64) 3 w25 w.heap.size (fun k_ => k_ ≠ gb208 ∧ k_ ≠ gb209 ∧ k_ ≠ gb219) v212 t211) := ⟨h0_⟩
                        have n1_ : Aside0 (w25.heap[gb208]? = some (.cells #[.int .i64 a0_0, .slice A0_1 l0_1.length c0_1] 32 (0, 0))) := ⟨h1_⟩
                        have n2_ : Aside0 (w25.heap[gb209]? = some (.cells #[.int .i64 a1_0, .slice A1_1 l1_1.length c1_1] 32 (0, 0))) := ⟨h2_⟩
                        have n3_ : Aside0 (w25.heap[gb219]? = some (.cells #[.int .i64 0, .slice none 0 0] 32 (0, 0))) := ⟨h3_⟩
                        have n4_ : Aside0 (w.heap.size ≤ gb219) := ⟨h4_⟩
                        have n5_ : Aside0 (w.heap.size ≤ gb219) := ⟨h5_⟩
                        have n6_ : Aside0 (gb208 ≠ gb219) := ⟨h6_⟩
                        have n7_ : Aside0 (gb219 ≠ gb208) := ⟨h7_⟩
                        have n8_ : Aside0 (gb209 ≠ gb219) := ⟨h8_⟩
                        have n9_ : Aside0 (gb219 ≠ gb209) := ⟨h9_⟩
                        have n10_ : Aside0 (Below w.heap.size w w25) := ⟨h10_⟩
                        clear BK208
                        clear BK209
                        clear HB
                        clear h0_ h1_ h2_ h3_ h4_ h5_ h6_ h7_ h8_ h9_ h10_
                        have HO213 := n0_
                        have BK208 := n1_
                        have BK209 := n2_
                        have BK219 := n3_
                        have GW219 := n4_
                        have GE219 := n5_
                        have NB208_219 := n6_
                        have NB219_208 := n7_
                        have NB209_219 := n8_
                        have NB219_209 := n9_
                        have HB := n10_
                        clear n0_ n1_ n2_ n3_ n4_ n5_ n6_ n7_ n8_ n9_ n10_
                        have hHeld : w25.cell? ⟨gb208, 0, none⟩ = some (.int .i64 a0_0) ∧ w25.cell? ⟨gb208, 1, none⟩ = some (.slice A0_1 l0_1.length c0_1) ∧ w25.cell? ⟨gb209, 0, none⟩ = some (.int .i64 a1_0) ∧ w25.cell? ⟨gb209, 1, none⟩ = some (.slice A1_1 l1_1.length c1_1) := hS_
                        refine norm_ (a' := ?_) ?_ ?_
                        rotate_left
                        · simp only [putAll, Act.put, l1_, l2_, l3_]
                          rfl
                        refine two_ (i := 3) (j := 4) (Ni := some 13) (Nj := some 5) #[true, true, true, true, false, true, false, false] #[true, true, true, false, true, true, false, false] rfl rfl rfl rfl (two_of HT_.out (by kernel_rfl)) (by decide) (by decide) (fun K hK => ?_) (fun K hK => ?_)
                        · skip
                          refine goes_ Try.func18 (by kernel_rfl) rfl #[.agg #[.int .i64 a1_0, .slice A1_1 l1_1.length c1_1]] (by rfl) rfl rfl (by (try simp only [List.map_toArray, List.map_cons, List.map_nil]); first | done | rfl | (simp only [List.length_drop, List.length_take]; rfl)) ?_
                          with_reducible refine (hawserlaw16_twin.callsV a1_0 _ _ l1_1 t214 t215 _ ?side1 ?side2 A4.out).mono ?_
                          (case side1 => repeat (first | exact (Kd.C_below HR1_1.out HB.out) | (with_reducible refine Kd.C_alloc ?_ _) | (with_reducible refine Kd.C_drewN ?_ _) | (with_reducible refine Kd.C_drew ?_)))
                          (case side2 => exact HC1_1.out)
                          rintro e w26 ⟨v216, rfl, ho0, hb⟩
                          refine ⟨_, rfl, ?_⟩
                          have n0_ := A_ (Tw.V_below (by (with_reducible repeat (first | apply Tw.V_alloc | apply Tw.V_drewN | apply Tw.V_drew)); exact HO213.out) hb)
                          have n1_ := A_ (Tw.V_lower (Tw.V_mono (ok' := fun k_ => k_ ≠ gb208 ∧ k_ ≠ gb209 ∧ k_ ≠ gb219) ho0 (fun k_ hk_ => ⟨(Kd.freshB (g := gb208) (o := .cells #[.int .i64 a0_0, .slice A0_1 l0_1.length c0_1] 32 (0, 0)) (by (with_reducible repeat (first | refine bN_ ?_ _ | refine bD_ ?_ | refine bA_ ?_ _)); exact BK208.out) k_ hk_), (Kd.freshB (g := gb209) (o := .cells #[.int .i64 a1_0, .slice A1_1 l1_1.length c1_1] 32 (0, 0)) (by (with_reducible repeat (first | refine bN_ ?_ _ | refine bD_ ?_ | refine bA_ ?_ _)); exact BK209.out) k_ hk_), (Kd.freshB (g := gb219) (o := .cells #[.int .i64 0, .slice none 0 0] 32 (0, 0)) (by (with_reducible repeat (first | refine bN_ ?_ _ | refine bD_ ?_ | refine bA_ ?_ _)); exact BK219.out) k_ hk_)⟩)) (below_size (by repeat (first | (with_reducible first | exact HB.out | apply pA_ | apply pN_ | apply pD_ | refine bs_ ?_ GE208.out | refine bs_ ?_ GE209.out | refine bs_ ?_ GE219.out) | exact HB.out))))
                          have n2_ := A_ (blk_below (g := gb208) (o := .cells #[.int .i64 a0_0, .slice A0_1 l0_1.length c0_1] 32 (0, 0)) (by (with_reducible repeat (first | refine bN_ ?_ _ | refine bD_ ?_ | refine bA_ ?_ _)); exact BK208.out) hb)
                          have n3_ := A_ (blk_below (g := gb209) (o := .cells #[.int .i64 a1_0, .slice A1_1 l1_1.length c1_1] 32 (0, 0)) (by (with_reducible repeat (first | refine bN_ ?_ _ | refine bD_ ?_ | refine bA_ ?_ _)); exact BK209.out) hb)
                          have n4_ := A_ (blk_below (g := gb219) (o := .cells #[.int .i64 0, .slice none 0 0] 32 (0, 0)) (by (with_reducible repeat (first | refine bN_ ?_ _ | refine bD_ ?_ | refine bA_ ?_ _)); exact BK219.out) hb)
                          have n5_ := A_ (below_step (by repeat (first | (with_reducible first | exact HB.out | apply pA_ | apply pN_ | apply pD_ | refine bs_ ?_ GE208.out | refine bs_ ?_ GE209.out | refine bs_ ?_ GE219.out) | exact HB.out)) hb)
                          clear HO213
                          clear BK208
                          clear BK209
                          clear BK219
                          clear HB
                          have HO213 := n0_
                          have HO217 := n1_
                          have BK208 := n2_
                          have BK209 := n3_
                          have BK219 := n4_
                          have HB := n5_
                          clear n0_ n1_ n2_ n3_ n4_ n5_
                          (try clear hb)
                          (try clear hb2)
                          (try clear hk)
                          (try clear hi)
                          (try clear ho0)
                          refine hK.out _ _ ⟨(bc_ BK208.out 0).trans rfl, (bc_ BK208.out 1).trans rfl, (bc_ BK209.out 0).trans rfl, (bc_ BK209.out 1).trans rfl⟩ (fun hHeld => ?_)
                          clear hK K
                          refine norm_ (a' := ?_) ?_ ?_
                          rotate_left
                          · show Act.put _ (some 13) _ = _
                            simp only [Act.put, l1_, l2_, l3_, i64_w, i32_w]
                            rfl
                          exact norm_ (by first | (simp only [putAll, Act.put, l1_, l2_, l3_]; done) | (simp only [putAll, Act.put, l1_, l2_, l3_]; rfl)) (hJ1_3_5 (v212, v216, gb219) _ ⟨hHeld, (by (with_reducible repeat (first | apply Tw.V_alloc | apply Tw.V_drewN | apply Tw.V_drew)); exact HO213.out), (by (with_reducible repeat (first | apply Tw.V_alloc | apply Tw.V_drewN | apply Tw.V_drew)); exact HO217.out), (by (with_reducible repeat (first | refine bN_ ?_ _ | refine bD_ ?_ | refine bA_ ?_ _)); exact BK208.out), (by (with_reducible repeat (first | refine bN_ ?_ _ | refine bD_ ?_ | refine bA_ ?_ _)); exact BK209.out), (by (with_reducible repeat (first | refine bN_ ?_ _ | refine bD_ ?_ | refine bA_ ?_ _)); exact BK219.out), GW219.out, GE219.out, NB208_219.out, NB219_208.out, NB209_219.out, NB219_209.out, (by repeat (first | (with_reducible first | exact HB.out | apply pA_ | apply pN_ | apply pD_ | refine bs_ ?_ GE208.out | refine bs_ ?_ GE209.out | refine bs_ ?_ GE219.out) | exact HB.out))⟩)
                        · skip
                          refine box_step ?hg (N := 5) ?hd (cs := #[.int .i64 0, .slice none 0 0]) (t := 32) ?hr ?_; (case hd => rfl); (case hg => rfl); (case hr => first | (go_simp; done) | (go_simp; rfl))
                          intro gb218 hg w26 hbox hb
                          have n0_ := A_ (Tw.V_below (Tw.V_elderB (by (with_reducible repeat (first | apply Tw.V_alloc | apply Tw.V_drewN | apply Tw.V_drew)); exact HO213.out) gb218 (Nat.le_of_eq hg.symm)) hb)
                          have n1_ := A_ (blk_below (g := gb208) (o := .cells #[.int .i64 a0_0, .slice A0_1 l0_1.length c0_1] 32 (0, 0)) (by (with_reducible repeat (first | refine bN_ ?_ _ | refine bD_ ?_ | refine bA_ ?_ _)); exact BK208.out) hb)
                          have n2_ := A_ (blk_below (g := gb209) (o := .cells #[.int .i64 a1_0, .slice A1_1 l1_1.length c1_1] 32 (0, 0)) (by (with_reducible repeat (first | refine bN_ ?_ _ | refine bD_ ?_ | refine bA_ ?_ _)); exact BK209.out) hb)
                          have n3_ := A_ (blk_below (g := gb219) (o := .cells #[.int .i64 0, .slice none 0 0] 32 (0, 0)) (by (with_reducible repeat (first | refine bN_ ?_ _ | refine bD_ ?_ | refine bA_ ?_ _)); exact BK219.out) hb)
                          have n4_ := A_ (below_step (by repeat (first | (with_reducible first | exact HB.out | apply pA_ | apply pN_ | apply pD_ | refine bs_ ?_ GE208.out | refine bs_ ?_ GE209.out | refine bs_ ?_ GE219.out) | exact HB.out)) hb)
                          have n5_ := A_ (hbox)
                          have n6_ := A_ ((by rw [hg]; exact (below_size (by repeat (first | (with_reducible first | exact HB.out | apply pA_ | apply pN_ | apply pD_ | refine bs_ ?_ GE208.out | refine bs_ ?_ GE209.out | refine bs_ ?_ GE219.out) | exact HB.out))) : w.heap.size ≤ gb218))
                          have n7_ := A_ ((by rw [hg]; exact (below_size (by repeat (first | (with_reducible first | exact HB.out | apply pA_ | apply pN_ | apply pD_ | refine bs_ ?_ GE208.out | refine bs_ ?_ GE209.out | refine bs_ ?_ GE219.out) | exact HB.out))) : w.heap.size ≤ gb218))
                          have n8_ := A_ ((by rw [hg]; exact Nat.ne_of_lt (blk_lt (g := gb208) (o := .cells #[.int .i64 a0_0, .slice A0_1 l0_1.length c0_1] 32 (0, 0)) (by (with_reducible repeat (first | refine bN_ ?_ _ | refine bD_ ?_ | refine bA_ ?_ _)); exact BK208.out)) : gb208 ≠ gb218))
                          have n9_ := A_ ((by rw [hg]; exact Nat.ne_of_gt (blk_lt (g := gb208) (o := .cells #[.int .i64 a0_0, .slice A0_1 l0_1.length c0_1] 32 (0, 0)) (by (with_reducible repeat (first | refine bN_ ?_ _ | refine bD_ ?_ | refine bA_ ?_ _)); exact BK208.out)) : gb218 ≠ gb208))
                          have n10_ := A_ ((by rw [hg]; exact Nat.ne_of_lt (blk_lt (g := gb209) (o := .cells #[.int .i64 a1_0, .slice A1_1 l1_1.length c1_1] 32 (0, 0)) (by (with_reducible repeat (first | refine bN_ ?_ _ | refine bD_ ?_ | refine bA_ ?_ _)); exact BK209.out)) : gb209 ≠ gb218))
                          have n11_ := A_ ((by rw [hg]; exact Nat.ne_of_gt (blk_lt (g := gb209) (o := .cells #[.int .i64 a1_0, .slice A1_1 l1_1.length c1_1] 32 (0, 0)) (by (with_reducible repeat (first | refine bN_ ?_ _ | refine bD_ ?_ | refine bA_ ?_ _)); exact BK209.out)) : gb218 ≠ gb209))
                          have n12_ := A_ ((by rw [hg]; exact Nat.ne_of_lt (blk_lt (g := gb219) (o := .cells #[.int .i64 0, .slice none 0 0] 32 (0, 0)) (by (with_reducible repeat (first | refine bN_ ?_ _ | refine bD_ ?_ | refine bA_ ?_ _)); exact BK219.out)) : gb219 ≠ gb218))
                          have n13_ := A_ ((by rw [hg]; exact Nat.ne_of_gt (blk_lt (g := gb219) (o := .cells #[.int .i64 0, .slice none 0 0] 32 (0, 0)) (by (with_reducible repeat (first | refine bN_ ?_ _ | refine bD_ ?_ | refine bA_ ?_ _)); exact BK219.out)) : gb218 ≠ gb219))
                          clear HO213
                          clear BK208
                          clear BK209
                          clear BK219
                          clear HB
                          have HO213 := n0_
                          have BK208 := n1_
                          have BK209 := n2_
                          have BK219 := n3_
                          have HB := n4_
                          have BK218 := n5_
                          have GW218 := n6_
                          have GE218 := n7_
                          have NB208_218 := n8_
                          have NB218_208 := n9_
                          have NB209_218 := n10_
                          have NB218_209 := n11_
                          have NB219_218 := n12_
                          have NB218_219 := n13_
                          clear n0_ n1_ n2_ n3_ n4_ n5_ n6_ n7_ n8_ n9_ n10_ n11_ n12_ n13_
                          clear hb hbox hg
                          refine hK.out _ _ ⟨(bc_ BK208.out 0).trans rfl, (bc_ BK208.out 1).trans rfl, (bc_ BK209.out 0).trans rfl, (bc_ BK209.out 1).trans rfl⟩ (fun hHeld => ?_)
                          clear hK K
                          refine norm_ (a' := ?_) ?_ ?_
                          rotate_left
                          · show Act.put _ (some 5) _ = _
                            simp only [Act.put, l1_, l2_, l3_, i64_w, i32_w]
                            rfl
                          exact norm_ (by first | (simp only [putAll, Act.put, l1_, l2_, l3_]; done) | (simp only [putAll, Act.put, l1_, l2_, l3_]; rfl)) (hJ1_4_5 (v212, gb218, gb219) _ ⟨hHeld, (by (with_reducible repeat (first | apply Tw.V_alloc | apply Tw.V_drewN | apply Tw.V_drew)); exact Tw.V_mono HO213.out (fun _ hk => ⟨hk.1.1, ⟨hk.1.2.1, ⟨hk.2, hk.1.2.2⟩⟩⟩)), (by (with_reducible repeat (first | refine bN_ ?_ _ | refine bD_ ?_ | refine bA_ ?_ _)); exact BK208.out), (by (with_reducible repeat (first | refine bN_ ?_ _ | refine bD_ ?_ | refine bA_ ?_ _)); exact BK209.out), (by (with_reducible repeat (first | refine bN_ ?_ _ | refine bD_ ?_ | refine bA_ ?_ _)); exact BK218.out), (by (with_reducible repeat (first | refine bN_ ?_ _ | refine bD_ ?_ | refine bA_ ?_ _)); exact BK219.out), GW218.out, GE218.out, NB208_218.out, NB218_208.out, NB209_218.out, NB218_209.out, NB219_218.out, NB218_219.out, GW219.out, GE219.out, NB208_219.out, NB219_208.out, NB209_219.out, NB219_209.out, (by repeat (first | (with_reducible first | exact HB.out | apply pA_ | apply pN_ | apply pD_ | refine bs_ ?_ GE208.out | refine bs_ ?_ GE209.out | refine bs_ ?_ GE219.out | refine bs_ ?_ GE218.out) | exact HB.out))⟩)
                    · skip
                      rintro ⟨v212, gb218⟩ w25 ⟨hS_, h0_, h1_, h2_, h3_, h4_, h5_, h6_, h7_, h8_, h9_, h10_⟩
                      have n0_ : Aside0 (Tw.V (Kd.int .i64) 3 w25 w.heap.size (fun k_ => k_ ≠ gb208 ∧ k_ ≠ gb209 ∧ k_ ≠ gb218) v212 t211) := ⟨h0_⟩
                      have n1_ : Aside0 (w25.heap[gb208]? = some (.cells #[.int .i64 a0_0, .slice A0_1 l0_1.length c0_1] 32 (0, 0))) := ⟨h1_⟩
                      have n2_ : Aside0 (w25.heap[gb209]? = some (.cells #[.int .i64 a1_0, .slice A1_1 l1_1.length c1_1] 32 (0, 0))) := ⟨h2_⟩
                      have n3_ : Aside0 (w25.heap[gb218]? = some (.cells #[.int .i64 0, .slice none 0 0] 32 (0, 0))) := ⟨h3_⟩
                      have n4_ : Aside0 (w.heap.size ≤ gb218) := ⟨h4_⟩
                      have n5_ : Aside0 (w.heap.size ≤ gb218) := ⟨h5_⟩
                      have n6_ : Aside0 (gb208 ≠ gb218) := ⟨h6_⟩
                      have n7_ : Aside0 (gb218 ≠ gb208) := ⟨h7_⟩
                      have n8_ : Aside0 (gb209 ≠ gb218) := ⟨h8_⟩
                      have n9_ : Aside0 (gb218 ≠ gb209) := ⟨h9_⟩
                      have n10_ : Aside0 (Below w.heap.size w w25) := ⟨h10_⟩
                      clear BK208
                      clear BK209
                      clear HB
                      clear h0_ h1_ h2_ h3_ h4_ h5_ h6_ h7_ h8_ h9_ h10_
                      have HO213 := n0_
                      have BK208 := n1_
                      have BK209 := n2_
                      have BK218 := n3_
                      have GW218 := n4_
                      have GE218 := n5_
                      have NB208_218 := n6_
                      have NB218_208 := n7_
                      have NB209_218 := n8_
                      have NB218_209 := n9_
                      have HB := n10_
                      clear n0_ n1_ n2_ n3_ n4_ n5_ n6_ n7_ n8_ n9_ n10_
                      have hHeld : w25.cell? ⟨gb208, 0, none⟩ = some (.int .i64 a0_0) ∧ w25.cell? ⟨gb208, 1, none⟩ = some (.slice A0_1 l0_1.length c0_1) ∧ w25.cell? ⟨gb209, 0, none⟩ = some (.int .i64 a1_0) ∧ w25.cell? ⟨gb209, 1, none⟩ = some (.slice A1_1 l1_1.length c1_1) := hS_
                      refine norm_ (a' := ?_) ?_ ?_
                      rotate_left
                      · simp only [putAll, Act.put, l1_, l2_, l3_]
                        rfl
                      refine two_ (i := 3) (j := 5) (Ni := some 13) (Nj := some 6) #[true, true, true, true, true, false, false, false] #[true, true, true, false, true, true, false, false] rfl rfl rfl rfl (two_of HT_.out (by kernel_rfl)) (by decide) (by decide) (fun K hK => ?_) (fun K hK => ?_)
                      · skip
                        refine goes_ Try.func18 (by kernel_rfl) rfl #[.agg #[.int .i64 a1_0, .slice A1_1 l1_1.length c1_1]] (by rfl) rfl rfl (by (try simp only [List.map_toArray, List.map_cons, List.map_nil]); first | done | rfl | (simp only [List.length_drop, List.length_take]; rfl)) ?_
                        with_reducible refine (hawserlaw16_twin.callsV a1_0 _ _ l1_1 t214 t215 _ ?side1 ?side2 A4.out).mono ?_
                        (case side1 => repeat (first | exact (Kd.C_below HR1_1.out HB.out) | (with_reducible refine Kd.C_alloc ?_ _) | (with_reducible refine Kd.C_drewN ?_ _) | (with_reducible refine Kd.C_drew ?_)))
                        (case side2 => exact HC1_1.out)
                        rintro e w26 ⟨v216, rfl, ho0, hb⟩
                        refine ⟨_, rfl, ?_⟩
                        have n0_ := A_ (Tw.V_below (by (with_reducible repeat (first | apply Tw.V_alloc | apply Tw.V_drewN | apply Tw.V_drew)); exact HO213.out) hb)
                        have n1_ := A_ (Tw.V_lower (Tw.V_mono (ok' := fun k_ => k_ ≠ gb208 ∧ k_ ≠ gb209 ∧ k_ ≠ gb218) ho0 (fun k_ hk_ => ⟨(Kd.freshB (g := gb208) (o := .cells #[.int .i64 a0_0, .slice A0_1 l0_1.length c0_1] 32 (0, 0)) (by (with_reducible repeat (first | refine bN_ ?_ _ | refine bD_ ?_ | refine bA_ ?_ _)); exact BK208.out) k_ hk_), (Kd.freshB (g := gb209) (o := .cells #[.int .i64 a1_0, .slice A1_1 l1_1.length c1_1] 32 (0, 0)) (by (with_reducible repeat (first | refine bN_ ?_ _ | refine bD_ ?_ | refine bA_ ?_ _)); exact BK209.out) k_ hk_), (Kd.freshB (g := gb218) (o := .cells #[.int .i64 0, .slice none 0 0] 32 (0, 0)) (by (with_reducible repeat (first | refine bN_ ?_ _ | refine bD_ ?_ | refine bA_ ?_ _)); exact BK218.out) k_ hk_)⟩)) (below_size (by repeat (first | (with_reducible first | exact HB.out | apply pA_ | apply pN_ | apply pD_ | refine bs_ ?_ GE208.out | refine bs_ ?_ GE209.out | refine bs_ ?_ GE218.out) | exact HB.out))))
                        have n2_ := A_ (blk_below (g := gb208) (o := .cells #[.int .i64 a0_0, .slice A0_1 l0_1.length c0_1] 32 (0, 0)) (by (with_reducible repeat (first | refine bN_ ?_ _ | refine bD_ ?_ | refine bA_ ?_ _)); exact BK208.out) hb)
                        have n3_ := A_ (blk_below (g := gb209) (o := .cells #[.int .i64 a1_0, .slice A1_1 l1_1.length c1_1] 32 (0, 0)) (by (with_reducible repeat (first | refine bN_ ?_ _ | refine bD_ ?_ | refine bA_ ?_ _)); exact BK209.out) hb)
                        have n4_ := A_ (blk_below (g := gb218) (o := .cells #[.int .i64 0, .slice none 0 0] 32 (0, 0)) (by (with_reducible repeat (first | refine bN_ ?_ _ | refine bD_ ?_ | refine bA_ ?_ _)); exact BK218.out) hb)
                        have n5_ := A_ (below_step (by repeat (first | (with_reducible first | exact HB.out | apply pA_ | apply pN_ | apply pD_ | refine bs_ ?_ GE208.out | refine bs_ ?_ GE209.out | refine bs_ ?_ GE218.out) | exact HB.out)) hb)
                        clear HO213
                        clear BK208
                        clear BK209
                        clear BK218
                        clear HB
                        have HO213 := n0_
                        have HO217 := n1_
                        have BK208 := n2_
                        have BK209 := n3_
                        have BK218 := n4_
                        have HB := n5_
                        clear n0_ n1_ n2_ n3_ n4_ n5_
                        (try clear hb)
                        (try clear hb2)
                        (try clear hk)
                        (try clear hi)
                        (try clear ho0)
                        refine hK.out _ _ ⟨(bc_ BK208.out 0).trans rfl, (bc_ BK208.out 1).trans rfl, (bc_ BK209.out 0).trans rfl, (bc_ BK209.out 1).trans rfl⟩ (fun hHeld => ?_)
                        clear hK K
                        refine norm_ (a' := ?_) ?_ ?_
                        rotate_left
                        · show Act.put _ (some 13) _ = _
                          simp only [Act.put, l1_, l2_, l3_, i64_w, i32_w]
                          rfl
                        exact norm_ (by first | (simp only [putAll, Act.put, l1_, l2_, l3_]; done) | (simp only [putAll, Act.put, l1_, l2_, l3_]; rfl)) (hJ1_3_4 (v212, v216, gb218) _ ⟨hHeld, (by (with_reducible repeat (first | apply Tw.V_alloc | apply Tw.V_drewN | apply Tw.V_drew)); exact HO213.out), (by (with_reducible repeat (first | apply Tw.V_alloc | apply Tw.V_drewN | apply Tw.V_drew)); exact HO217.out), (by (with_reducible repeat (first | refine bN_ ?_ _ | refine bD_ ?_ | refine bA_ ?_ _)); exact BK208.out), (by (with_reducible repeat (first | refine bN_ ?_ _ | refine bD_ ?_ | refine bA_ ?_ _)); exact BK209.out), (by (with_reducible repeat (first | refine bN_ ?_ _ | refine bD_ ?_ | refine bA_ ?_ _)); exact BK218.out), GW218.out, GE218.out, NB208_218.out, NB218_208.out, NB209_218.out, NB218_209.out, (by repeat (first | (with_reducible first | exact HB.out | apply pA_ | apply pN_ | apply pD_ | refine bs_ ?_ GE208.out | refine bs_ ?_ GE209.out | refine bs_ ?_ GE218.out) | exact HB.out))⟩)
                      · skip
                        refine box_step ?hg (N := 6) ?hd (cs := #[.int .i64 0, .slice none 0 0]) (t := 32) ?hr ?_; (case hd => rfl); (case hg => rfl); (case hr => first | (go_simp; done) | (go_simp; rfl))
                        intro gb219 hg w26 hbox hb
                        have n0_ := A_ (Tw.V_below (Tw.V_elderB (by (with_reducible repeat (first | apply Tw.V_alloc | apply Tw.V_drewN | apply Tw.V_drew)); exact HO213.out) gb219 (Nat.le_of_eq hg.symm)) hb)
                        have n1_ := A_ (blk_below (g := gb208) (o := .cells #[.int .i64 a0_0, .slice A0_1 l0_1.length c0_1] 32 (0, 0)) (by (with_reducible repeat (first | refine bN_ ?_ _ | refine bD_ ?_ | refine bA_ ?_ _)); exact BK208.out) hb)
                        have n2_ := A_ (blk_below (g := gb209) (o := .cells #[.int .i64 a1_0, .slice A1_1 l1_1.length c1_1] 32 (0, 0)) (by (with_reducible repeat (first | refine bN_ ?_ _ | refine bD_ ?_ | refine bA_ ?_ _)); exact BK209.out) hb)
                        have n3_ := A_ (blk_below (g := gb218) (o := .cells #[.int .i64 0, .slice none 0 0] 32 (0, 0)) (by (with_reducible repeat (first | refine bN_ ?_ _ | refine bD_ ?_ | refine bA_ ?_ _)); exact BK218.out) hb)
                        have n4_ := A_ (below_step (by repeat (first | (with_reducible first | exact HB.out | apply pA_ | apply pN_ | apply pD_ | refine bs_ ?_ GE208.out | refine bs_ ?_ GE209.out | refine bs_ ?_ GE218.out) | exact HB.out)) hb)
                        have n5_ := A_ (hbox)
                        have n6_ := A_ ((by rw [hg]; exact (below_size (by repeat (first | (with_reducible first | exact HB.out | apply pA_ | apply pN_ | apply pD_ | refine bs_ ?_ GE208.out | refine bs_ ?_ GE209.out | refine bs_ ?_ GE218.out) | exact HB.out))) : w.heap.size ≤ gb219))
                        have n7_ := A_ ((by rw [hg]; exact (below_size (by repeat (first | (with_reducible first | exact HB.out | apply pA_ | apply pN_ | apply pD_ | refine bs_ ?_ GE208.out | refine bs_ ?_ GE209.out | refine bs_ ?_ GE218.out) | exact HB.out))) : w.heap.size ≤ gb219))
                        have n8_ := A_ ((by rw [hg]; exact Nat.ne_of_lt (blk_lt (g := gb208) (o := .cells #[.int .i64 a0_0, .slice A0_1 l0_1.length c0_1] 32 (0, 0)) (by (with_reducible repeat (first | refine bN_ ?_ _ | refine bD_ ?_ | refine bA_ ?_ _)); exact BK208.out)) : gb208 ≠ gb219))
                        have n9_ := A_ ((by rw [hg]; exact Nat.ne_of_gt (blk_lt (g := gb208) (o := .cells #[.int .i64 a0_0, .slice A0_1 l0_1.length c0_1] 32 (0, 0)) (by (with_reducible repeat (first | refine bN_ ?_ _ | refine bD_ ?_ | refine bA_ ?_ _)); exact BK208.out)) : gb219 ≠ gb208))
                        have n10_ := A_ ((by rw [hg]; exact Nat.ne_of_lt (blk_lt (g := gb209) (o := .cells #[.int .i64 a1_0, .slice A1_1 l1_1.length c1_1] 32 (0, 0)) (by (with_reducible repeat (first | refine bN_ ?_ _ | refine bD_ ?_ | refine bA_ ?_ _)); exact BK209.out)) : gb209 ≠ gb219))
                        have n11_ := A_ ((by rw [hg]; exact Nat.ne_of_gt (blk_lt (g := gb209) (o := .cells #[.int .i64 a1_0, .slice A1_1 l1_1.length c1_1] 32 (0, 0)) (by (with_reducible repeat (first | refine bN_ ?_ _ | refine bD_ ?_ | refine bA_ ?_ _)); exact BK209.out)) : gb219 ≠ gb209))
                        have n12_ := A_ ((by rw [hg]; exact Nat.ne_of_lt (blk_lt (g := gb218) (o := .cells #[.int .i64 0, .slice none 0 0] 32 (0, 0)) (by (with_reducible repeat (first | refine bN_ ?_ _ | refine bD_ ?_ | refine bA_ ?_ _)); exact BK218.out)) : gb218 ≠ gb219))
                        have n13_ := A_ ((by rw [hg]; exact Nat.ne_of_gt (blk_lt (g := gb218) (o := .cells #[.int .i64 0, .slice none 0 0] 32 (0, 0)) (by (with_reducible repeat (first | refine bN_ ?_ _ | refine bD_ ?_ | refine bA_ ?_ _)); exact BK218.out)) : gb219 ≠ gb218))
                        clear HO213
                        clear BK208
                        clear BK209
                        clear BK218
                        clear HB
                        have HO213 := n0_
                        have BK208 := n1_
                        have BK209 := n2_
                        have BK218 := n3_
                        have HB := n4_
                        have BK219 := n5_
                        have GW219 := n6_
                        have GE219 := n7_
                        have NB208_219 := n8_
                        have NB219_208 := n9_
                        have NB209_219 := n10_
                        have NB219_209 := n11_
                        have NB218_219 := n12_
                        have NB219_218 := n13_
                        clear n0_ n1_ n2_ n3_ n4_ n5_ n6_ n7_ n8_ n9_ n10_ n11_ n12_ n13_
                        clear hb hbox hg
                        refine hK.out _ _ ⟨(bc_ BK208.out 0).trans rfl, (bc_ BK208.out 1).trans rfl, (bc_ BK209.out 0).trans rfl, (bc_ BK209.out 1).trans rfl⟩ (fun hHeld => ?_)
                        clear hK K
                        refine norm_ (a' := ?_) ?_ ?_
                        rotate_left
                        · show Act.put _ (some 6) _ = _
                          simp only [Act.put, l1_, l2_, l3_, i64_w, i32_w]
                          rfl
                        exact norm_ (by first | (simp only [putAll, Act.put, l1_, l2_, l3_]; done) | (simp only [putAll, Act.put, l1_, l2_, l3_]; rfl)) (hJ1_4_5 (v212, gb218, gb219) _ ⟨hHeld, (by (with_reducible repeat (first | apply Tw.V_alloc | apply Tw.V_drewN | apply Tw.V_drew)); exact Tw.V_mono HO213.out (fun _ hk => ⟨hk.1.1, ⟨hk.1.2.1, ⟨hk.1.2.2, hk.2⟩⟩⟩)), (by (with_reducible repeat (first | refine bN_ ?_ _ | refine bD_ ?_ | refine bA_ ?_ _)); exact BK208.out), (by (with_reducible repeat (first | refine bN_ ?_ _ | refine bD_ ?_ | refine bA_ ?_ _)); exact BK209.out), (by (with_reducible repeat (first | refine bN_ ?_ _ | refine bD_ ?_ | refine bA_ ?_ _)); exact BK218.out), (by (with_reducible repeat (first | refine bN_ ?_ _ | refine bD_ ?_ | refine bA_ ?_ _)); exact BK219.out), GW218.out, GE218.out, NB208_218.out, NB218_208.out, NB209_218.out, NB218_209.out, NB219_218.out, NB218_219.out, GW219.out, GE219.out, NB208_219.out, NB219_208.out, NB209_219.out, NB219_209.out, (by repeat (first | (with_reducible first | exact HB.out | apply pA_ | apply pN_ | apply pD_ | refine bs_ ?_ GE208.out | refine bs_ ?_ GE209.out | refine bs_ ?_ GE218.out | refine bs_ ?_ GE219.out) | exact HB.out))⟩)
                  · skip
                    rintro ⟨v212, v216⟩ w25 ⟨hS_, h0_, h1_, h2_, h3_, h4_⟩
                    have n0_ : Aside0 (Tw.V (Kd.int .i64) 3 w25 w.heap.size (fun k_ => k_ ≠ gb208 ∧ k_ ≠ gb209) v212 t211) := ⟨h0_⟩
                    have n1_ : Aside0 (Tw.V (Kd.int .i64) 3 w25 w.heap.size (fun k_ => k_ ≠ gb208 ∧ k_ ≠ gb209) v216 t215) := ⟨h1_⟩
                    have n2_ : Aside0 (w25.heap[gb208]? = some (.cells #[.int .i64 a0_0, .slice A0_1 l0_1.length c0_1] 32 (0, 0))) := ⟨h2_⟩
                    have n3_ : Aside0 (w25.heap[gb209]? = some (.cells #[.int .i64 a1_0, .slice A1_1 l1_1.length c1_1] 32 (0, 0))) := ⟨h3_⟩
                    have n4_ : Aside0 (Below w.heap.size w w25) := ⟨h4_⟩
                    clear BK208
                    clear BK209
                    clear HB
                    clear h0_ h1_ h2_ h3_ h4_
                    have HO213 := n0_
                    have HO217 := n1_
                    have BK208 := n2_
                    have BK209 := n3_
                    have HB := n4_
                    clear n0_ n1_ n2_ n3_ n4_
                    have hHeld : w25.cell? ⟨gb208, 0, none⟩ = some (.int .i64 a0_0) ∧ w25.cell? ⟨gb208, 1, none⟩ = some (.slice A0_1 l0_1.length c0_1) ∧ w25.cell? ⟨gb209, 0, none⟩ = some (.int .i64 a1_0) ∧ w25.cell? ⟨gb209, 1, none⟩ = some (.slice A1_1 l1_1.length c1_1) := hS_
                    refine norm_ (a' := ?_) ?_ ?_
                    rotate_left
                    · simp only [putAll, Act.put, l1_, l2_, l3_]
                      rfl
                    refine two_ (i := 4) (j := 5) (Ni := some 5) (Nj := some 6) #[true, true, true, true, true, false, false, false] #[true, true, true, true, false, true, false, false] rfl rfl rfl rfl (two_of HT_.out (by kernel_rfl)) (by decide) (by decide) (fun K hK => ?_) (fun K hK => ?_)
                    · skip
                      refine box_step ?hg (N := 5) ?hd (cs := #[.int .i64 0, .slice none 0 0]) (t := 32) ?hr ?_; (case hd => rfl); (case hg => rfl); (case hr => first | (go_simp; done) | (go_simp; rfl))
                      intro gb218 hg w26 hbox hb
                      have n0_ := A_ (Tw.V_below (Tw.V_elderB (by (with_reducible repeat (first | apply Tw.V_alloc | apply Tw.V_drewN | apply Tw.V_drew)); exact HO213.out) gb218 (Nat.le_of_eq hg.symm)) hb)
                      have n1_ := A_ (Tw.V_below (Tw.V_elderB (by (with_reducible repeat (first | apply Tw.V_alloc | apply Tw.V_drewN | apply Tw.V_drew)); exact HO217.out) gb218 (Nat.le_of_eq hg.symm)) hb)
                      have n2_ := A_ (blk_below (g := gb208) (o := .cells #[.int .i64 a0_0, .slice A0_1 l0_1.length c0_1] 32 (0, 0)) (by (with_reducible repeat (first | refine bN_ ?_ _ | refine bD_ ?_ | refine bA_ ?_ _)); exact BK208.out) hb)
                      have n3_ := A_ (blk_below (g := gb209) (o := .cells #[.int .i64 a1_0, .slice A1_1 l1_1.length c1_1] 32 (0, 0)) (by (with_reducible repeat (first | refine bN_ ?_ _ | refine bD_ ?_ | refine bA_ ?_ _)); exact BK209.out) hb)
                      have n4_ := A_ (below_step (by repeat (first | (with_reducible first | exact HB.out | apply pA_ | apply pN_ | apply pD_ | refine bs_ ?_ GE208.out | refine bs_ ?_ GE209.out) | exact HB.out)) hb)
                      have n5_ := A_ (hbox)
                      have n6_ := A_ ((by rw [hg]; exact (below_size (by repeat (first | (with_reducible first | exact HB.out | apply pA_ | apply pN_ | apply pD_ | refine bs_ ?_ GE208.out | refine bs_ ?_ GE209.out) | exact HB.out))) : w.heap.size ≤ gb218))
                      have n7_ := A_ ((by rw [hg]; exact (below_size (by repeat (first | (with_reducible first | exact HB.out | apply pA_ | apply pN_ | apply pD_ | refine bs_ ?_ GE208.out | refine bs_ ?_ GE209.out) | exact HB.out))) : w.heap.size ≤ gb218))
                      have n8_ := A_ ((by rw [hg]; exact Nat.ne_of_lt (blk_lt (g := gb208) (o := .cells #[.int .i64 a0_0, .slice A0_1 l0_1.length c0_1] 32 (0, 0)) (by (with_reducible repeat (first | refine bN_ ?_ _ | refine bD_ ?_ | refine bA_ ?_ _)); exact BK208.out)) : gb208 ≠ gb218))
                      have n9_ := A_ ((by rw [hg]; exact Nat.ne_of_gt (blk_lt (g := gb208) (o := .cells #[.int .i64 a0_0, .slice A0_1 l0_1.length c0_1] 32 (0, 0)) (by (with_reducible repeat (first | refine bN_ ?_ _ | refine bD_ ?_ | refine bA_ ?_ _)); exact BK208.out)) : gb218 ≠ gb208))
                      have n10_ := A_ ((by rw [hg]; exact Nat.ne_of_lt (blk_lt (g := gb209) (o := .cells #[.int .i64 a1_0, .slice A1_1 l1_1.length c1_1] 32 (0, 0)) (by (with_reducible repeat (first | refine bN_ ?_ _ | refine bD_ ?_ | refine bA_ ?_ _)); exact BK209.out)) : gb209 ≠ gb218))
                      have n11_ := A_ ((by rw [hg]; exact Nat.ne_of_gt (blk_lt (g := gb209) (o := .cells #[.int .i64 a1_0, .slice A1_1 l1_1.length c1_1] 32 (0, 0)) (by (with_reducible repeat (first | refine bN_ ?_ _ | refine bD_ ?_ | refine bA_ ?_ _)); exact BK209.out)) : gb218 ≠ gb209))
                      clear HO213
                      clear HO217
                      clear BK208
                      clear BK209
                      clear HB
                      have HO213 := n0_
                      have HO217 := n1_
                      have BK208 := n2_
                      have BK209 := n3_
                      have HB := n4_
                      have BK218 := n5_
                      have GW218 := n6_
                      have GE218 := n7_
                      have NB208_218 := n8_
                      have NB218_208 := n9_
                      have NB209_218 := n10_
                      have NB218_209 := n11_
                      clear n0_ n1_ n2_ n3_ n4_ n5_ n6_ n7_ n8_ n9_ n10_ n11_
                      clear hb hbox hg
                      refine hK.out _ _ ⟨(bc_ BK208.out 0).trans rfl, (bc_ BK208.out 1).trans rfl, (bc_ BK209.out 0).trans rfl, (bc_ BK209.out 1).trans rfl⟩ (fun hHeld => ?_)
                      clear hK K
                      refine norm_ (a' := ?_) ?_ ?_
                      rotate_left
                      · show Act.put _ (some 5) _ = _
                        simp only [Act.put, l1_, l2_, l3_, i64_w, i32_w]
                        rfl
                      exact norm_ (by first | (simp only [putAll, Act.put, l1_, l2_, l3_]; done) | (simp only [putAll, Act.put, l1_, l2_, l3_]; rfl)) (hJ1_3_4 (v212, v216, gb218) _ ⟨hHeld, (by (with_reducible repeat (first | apply Tw.V_alloc | apply Tw.V_drewN | apply Tw.V_drew)); exact Tw.V_mono HO213.out (fun _ hk => ⟨hk.1.1, ⟨hk.1.2, hk.2⟩⟩)), (by (with_reducible repeat (first | apply Tw.V_alloc | apply Tw.V_drewN | apply Tw.V_drew)); exact Tw.V_mono HO217.out (fun _ hk => ⟨hk.1.1, ⟨hk.1.2, hk.2⟩⟩)), (by (with_reducible repeat (first | refine bN_ ?_ _ | refine bD_ ?_ | refine bA_ ?_ _)); exact BK208.out), (by (with_reducible repeat (first | refine bN_ ?_ _ | refine bD_ ?_ | refine bA_ ?_ _)); exact BK209.out), (by (with_reducible repeat (first | refine bN_ ?_ _ | refine bD_ ?_ | refine bA_ ?_ _)); exact BK218.out), GW218.out, GE218.out, NB208_218.out, NB218_208.out, NB209_218.out, NB218_209.out, (by repeat (first | (with_reducible first | exact HB.out | apply pA_ | apply pN_ | apply pD_ | refine bs_ ?_ GE208.out | refine bs_ ?_ GE209.out | refine bs_ ?_ GE218.out) | exact HB.out))⟩)
                    · skip
                      refine box_step ?hg (N := 6) ?hd (cs := #[.int .i64 0, .slice none 0 0]) (t := 32) ?hr ?_; (case hd => rfl); (case hg => rfl); (case hr => first | (go_simp; done) | (go_simp; rfl))
                      intro gb219 hg w26 hbox hb
                      have n0_ := A_ (Tw.V_below (Tw.V_elderB (by (with_reducible repeat (first | apply Tw.V_alloc | apply Tw.V_drewN | apply Tw.V_drew)); exact HO213.out) gb219 (Nat.le_of_eq hg.symm)) hb)
                      have n1_ := A_ (Tw.V_below (Tw.V_elderB (by (with_reducible repeat (first | apply Tw.V_alloc | apply Tw.V_drewN | apply Tw.V_drew)); exact HO217.out) gb219 (Nat.le_of_eq hg.symm)) hb)
                      have n2_ := A_ (blk_below (g := gb208) (o := .cells #[.int .i64 a0_0, .slice A0_1 l0_1.length c0_1] 32 (0, 0)) (by (with_reducible repeat (first | refine bN_ ?_ _ | refine bD_ ?_ | refine bA_ ?_ _)); exact BK208.out) hb)
                      have n3_ := A_ (blk_below (g := gb209) (o := .cells #[.int .i64 a1_0, .slice A1_1 l1_1.length c1_1] 32 (0, 0)) (by (with_reducible repeat (first | refine bN_ ?_ _ | refine bD_ ?_ | refine bA_ ?_ _)); exact BK209.out) hb)
                      have n4_ := A_ (below_step (by repeat (first | (with_reducible first | exact HB.out | apply pA_ | apply pN_ | apply pD_ | refine bs_ ?_ GE208.out | refine bs_ ?_ GE209.out) | exact HB.out)) hb)
                      have n5_ := A_ (hbox)
                      have n6_ := A_ ((by rw [hg]; exact (below_size (by repeat (first | (with_reducible first | exact HB.out | apply pA_ | apply pN_ | apply pD_ | refine bs_ ?_ GE208.out | refine bs_ ?_ GE209.out) | exact HB.out))) : w.heap.size ≤ gb219))
                      have n7_ := A_ ((by rw [hg]; exact (below_size (by repeat (first | (with_reducible first | exact HB.out | apply pA_ | apply pN_ | apply pD_ | refine bs_ ?_ GE208.out | refine bs_ ?_ GE209.out) | exact HB.out))) : w.heap.size ≤ gb219))
                      have n8_ := A_ ((by rw [hg]; exact Nat.ne_of_lt (blk_lt (g := gb208) (o := .cells #[.int .i64 a0_0, .slice A0_1 l0_1.length c0_1] 32 (0, 0)) (by (with_reducible repeat (first | refine bN_ ?_ _ | refine bD_ ?_ | refine bA_ ?_ _)); exact BK208.out)) : gb208 ≠ gb219))
                      have n9_ := A_ ((by rw [hg]; exact Nat.ne_of_gt (blk_lt (g := gb208) (o := .cells #[.int .i64 a0_0, .slice A0_1 l0_1.length c0_1] 32 (0, 0)) (by (with_reducible repeat (first | refine bN_ ?_ _ | refine bD_ ?_ | refine bA_ ?_ _)); exact BK208.out)) : gb219 ≠ gb208))
                      have n10_ := A_ ((by rw [hg]; exact Nat.ne_of_lt (blk_lt (g := gb209) (o := .cells #[.int .i64 a1_0, .slice A1_1 l1_1.length c1_1] 32 (0, 0)) (by (with_reducible repeat (first | refine bN_ ?_ _ | refine bD_ ?_ | refine bA_ ?_ _)); exact BK209.out)) : gb209 ≠ gb219))
                      have n11_ := A_ ((by rw [hg]; exact Nat.ne_of_gt (blk_lt (g := gb209) (o := .cells #[.int .i64 a1_0, .slice A1_1 l1_1.length c1_1] 32 (0, 0)) (by (with_reducible repeat (first | refine bN_ ?_ _ | refine bD_ ?_ | refine bA_ ?_ _)); exact BK209.out)) : gb219 ≠ gb209))
                      clear HO213
                      clear HO217
                      clear BK208
                      clear BK209
                      clear HB
                      have HO213 := n0_
                      have HO217 := n1_
                      have BK208 := n2_
                      have BK209 := n3_
                      have HB := n4_
                      have BK219 := n5_
                      have GW219 := n6_
                      have GE219 := n7_
                      have NB208_219 := n8_
                      have NB219_208 := n9_
                      have NB209_219 := n10_
                      have NB219_209 := n11_
                      clear n0_ n1_ n2_ n3_ n4_ n5_ n6_ n7_ n8_ n9_ n10_ n11_
                      clear hb hbox hg
                      refine hK.out _ _ ⟨(bc_ BK208.out 0).trans rfl, (bc_ BK208.out 1).trans rfl, (bc_ BK209.out 0).trans rfl, (bc_ BK209.out 1).trans rfl⟩ (fun hHeld => ?_)
                      clear hK K
                      refine norm_ (a' := ?_) ?_ ?_
                      rotate_left
                      · show Act.put _ (some 6) _ = _
                        simp only [Act.put, l1_, l2_, l3_, i64_w, i32_w]
                        rfl
                      exact norm_ (by first | (simp only [putAll, Act.put, l1_, l2_, l3_]; done) | (simp only [putAll, Act.put, l1_, l2_, l3_]; rfl)) (hJ1_3_5 (v212, v216, gb219) _ ⟨hHeld, (by (with_reducible repeat (first | apply Tw.V_alloc | apply Tw.V_drewN | apply Tw.V_drew)); exact Tw.V_mono HO213.out (fun _ hk => ⟨hk.1.1, ⟨hk.1.2, hk.2⟩⟩)), (by (with_reducible repeat (first | apply Tw.V_alloc | apply Tw.V_drewN | apply Tw.V_drew)); exact Tw.V_mono HO217.out (fun _ hk => ⟨hk.1.1, ⟨hk.1.2, hk.2⟩⟩)), (by (with_reducible repeat (first | refine bN_ ?_ _ | refine bD_ ?_ | refine bA_ ?_ _)); exact BK208.out), (by (with_reducible repeat (first | refine bN_ ?_ _ | refine bD_ ?_ | refine bA_ ?_ _)); exact BK209.out), (by (with_reducible repeat (first | refine bN_ ?_ _ | refine bD_ ?_ | refine bA_ ?_ _)); exact BK219.out), GW219.out, GE219.out, NB208_219.out, NB219_208.out, NB209_219.out, NB219_209.out, (by repeat (first | (with_reducible first | exact HB.out | apply pA_ | apply pN_ | apply pD_ | refine bs_ ?_ GE208.out | refine bs_ ?_ GE209.out | refine bs_ ?_ GE219.out) | exact HB.out))⟩)
                · skip
                  rintro ⟨v212, gb218, gb219⟩ w26 ⟨hS_, h0_, h1_, h2_, h3_, h4_, h5_, h6_, h7_, h8_, h9_, h10_, h11_, h12_, h13_, h14_, h15_, h16_, h17_, h18_, h19_⟩
                  have n0_ : Aside0 (Tw.V (Kd.int .i64) 3 w26 w.heap.size (fun k_ => k_ ≠ gb208 ∧ k_ ≠ gb209 ∧ k_ ≠ gb218 ∧ k_ ≠ gb219) v212 t211) := ⟨h0_⟩
                  have n1_ : Aside0 (w26.heap[gb208]? = some (.cells #[.int .i64 a0_0, .slice A0_1 l0_1.length c0_1] 32 (0, 0))) := ⟨h1_⟩
                  have n2_ : Aside0 (w26.heap[gb209]? = some (.cells #[.int .i64 a1_0, .slice A1_1 l1_1.length c1_1] 32 (0, 0))) := ⟨h2_⟩
                  have n3_ : Aside0 (w26.heap[gb218]? = some (.cells #[.int .i64 0, .slice none 0 0] 32 (0, 0))) := ⟨h3_⟩
                  have n4_ : Aside0 (w26.heap[gb219]? = some (.cells #[.int .i64 0, .slice none 0 0] 32 (0, 0))) := ⟨h4_⟩
                  have n5_ : Aside0 (w.heap.size ≤ gb218) := ⟨h5_⟩
                  have n6_ : Aside0 (w.heap.size ≤ gb218) := ⟨h6_⟩
                  have n7_ : Aside0 (gb208 ≠ gb218) := ⟨h7_⟩
                  have n8_ : Aside0 (gb218 ≠ gb208) := ⟨h8_⟩
                  have n9_ : Aside0 (gb209 ≠ gb218) := ⟨h9_⟩
                  have n10_ : Aside0 (gb218 ≠ gb209) := ⟨h10_⟩
                  have n11_ : Aside0 (gb219 ≠ gb218) := ⟨h11_⟩
                  have n12_ : Aside0 (gb218 ≠ gb219) := ⟨h12_⟩
                  have n13_ : Aside0 (w.heap.size ≤ gb219) := ⟨h13_⟩
                  have n14_ : Aside0 (w.heap.size ≤ gb219) := ⟨h14_⟩
                  have n15_ : Aside0 (gb208 ≠ gb219) := ⟨h15_⟩
                  have n16_ : Aside0 (gb219 ≠ gb208) := ⟨h16_⟩
                  have n17_ : Aside0 (gb209 ≠ gb219) := ⟨h17_⟩
                  have n18_ : Aside0 (gb219 ≠ gb209) := ⟨h18_⟩
                  have n19_ : Aside0 (Below w.heap.size w w26) := ⟨h19_⟩
                  clear BK208
                  clear BK209
                  clear HB
                  clear h0_ h1_ h2_ h3_ h4_ h5_ h6_ h7_ h8_ h9_ h10_ h11_ h12_ h13_ h14_ h15_ h16_ h17_ h18_ h19_
                  have HO213 := n0_
                  have BK208 := n1_
                  have BK209 := n2_
                  have BK218 := n3_
                  have BK219 := n4_
                  have GW218 := n5_
                  have GE218 := n6_
                  have NB208_218 := n7_
                  have NB218_208 := n8_
                  have NB209_218 := n9_
                  have NB218_209 := n10_
                  have NB219_218 := n11_
                  have NB218_219 := n12_
                  have GW219 := n13_
                  have GE219 := n14_
                  have NB208_219 := n15_
                  have NB219_208 := n16_
                  have NB209_219 := n17_
                  have NB219_209 := n18_
                  have HB := n19_
                  clear n0_ n1_ n2_ n3_ n4_ n5_ n6_ n7_ n8_ n9_ n10_ n11_ n12_ n13_ n14_ n15_ n16_ n17_ n18_ n19_
                  have hHeld : w26.cell? ⟨gb208, 0, none⟩ = some (.int .i64 a0_0) ∧ w26.cell? ⟨gb208, 1, none⟩ = some (.slice A0_1 l0_1.length c0_1) ∧ w26.cell? ⟨gb209, 0, none⟩ = some (.int .i64 a1_0) ∧ w26.cell? ⟨gb209, 1, none⟩ = some (.slice A1_1 l1_1.length c1_1) := hS_
                  refine norm_ (a' := ?_) ?_ ?_
                  rotate_left
                  · simp only [putAll, Act.put, l1_, l2_, l3_]
                    rfl
                  refine one_ (i := 3) (N := some 13) #[true, true, true, true, true, true, false, false] rfl rfl (one_of HT_.out (by kernel_rfl)) (by decide) (fun K hK => ?_)
                  refine goes_ Try.func18 (by kernel_rfl) rfl #[.agg #[.int .i64 a1_0, .slice A1_1 l1_1.length c1_1]] (by rfl) rfl rfl (by (try simp only [List.map_toArray, List.map_cons, List.map_nil]); first | done | rfl | (simp only [List.length_drop, List.length_take]; rfl)) ?_
                  with_reducible refine (hawserlaw16_twin.callsV a1_0 _ _ l1_1 t214 t215 _ ?side1 ?side2 A4.out).mono ?_
                  (case side1 => repeat (first | exact (Kd.C_below HR1_1.out HB.out) | (with_reducible refine Kd.C_alloc ?_ _) | (with_reducible refine Kd.C_drewN ?_ _) | (with_reducible refine Kd.C_drew ?_)))
                  (case side2 => exact HC1_1.out)
                  rintro e w27 ⟨v216, rfl, ho0, hb⟩
                  refine ⟨_, rfl, ?_⟩
                  have n0_ := A_ (Tw.V_below (by (with_reducible repeat (first | apply Tw.V_alloc | apply Tw.V_drewN | apply Tw.V_drew)); exact HO213.out) hb)
                  have n1_ := A_ (Tw.V_lower (Tw.V_mono (ok' := fun k_ => k_ ≠ gb208 ∧ k_ ≠ gb209 ∧ k_ ≠ gb218 ∧ k_ ≠ gb219) ho0 (fun k_ hk_ => ⟨(Kd.freshB (g := gb208) (o := .cells #[.int .i64 a0_0, .slice A0_1 l0_1.length c0_1] 32 (0, 0)) (by (with_reducible repeat (first | refine bN_ ?_ _ | refine bD_ ?_ | refine bA_ ?_ _)); exact BK208.out) k_ hk_), (Kd.freshB (g := gb209) (o := .cells #[.int .i64 a1_0, .slice A1_1 l1_1.length c1_1] 32 (0, 0)) (by (with_reducible repeat (first | refine bN_ ?_ _ | refine bD_ ?_ | refine bA_ ?_ _)); exact BK209.out) k_ hk_), (Kd.freshB (g := gb218) (o := .cells #[.int .i64 0, .slice none 0 0] 32 (0, 0)) (by (with_reducible repeat (first | refine bN_ ?_ _ | refine bD_ ?_ | refine bA_ ?_ _)); exact BK218.out) k_ hk_), (Kd.freshB (g := gb219) (o := .cells #[.int .i64 0, .slice none 0 0] 32 (0, 0)) (by (with_reducible repeat (first | refine bN_ ?_ _ | refine bD_ ?_ | refine bA_ ?_ _)); exact BK219.out) k_ hk_)⟩)) (below_size (by repeat (first | (with_reducible first | exact HB.out | apply pA_ | apply pN_ | apply pD_ | refine bs_ ?_ GE208.out | refine bs_ ?_ GE209.out | refine bs_ ?_ GE218.out | refine bs_ ?_ GE219.out) | exact HB.out))))
                  have n2_ := A_ (blk_below (g := gb208) (o := .cells #[.int .i64 a0_0, .slice A0_1 l0_1.length c0_1] 32 (0, 0)) (by (with_reducible repeat (first | refine bN_ ?_ _ | refine bD_ ?_ | refine bA_ ?_ _)); exact BK208.out) hb)
                  have n3_ := A_ (blk_below (g := gb209) (o := .cells #[.int .i64 a1_0, .slice A1_1 l1_1.length c1_1] 32 (0, 0)) (by (with_reducible repeat (first | refine bN_ ?_ _ | refine bD_ ?_ | refine bA_ ?_ _)); exact BK209.out) hb)
                  have n4_ := A_ (blk_below (g := gb218) (o := .cells #[.int .i64 0, .slice none 0 0] 32 (0, 0)) (by (with_reducible repeat (first | refine bN_ ?_ _ | refine bD_ ?_ | refine bA_ ?_ _)); exact BK218.out) hb)
                  have n5_ := A_ (blk_below (g := gb219) (o := .cells #[.int .i64 0, .slice none 0 0] 32 (0, 0)) (by (with_reducible repeat (first | refine bN_ ?_ _ | refine bD_ ?_ | refine bA_ ?_ _)); exact BK219.out) hb)
                  have n6_ := A_ (below_step (by repeat (first | (with_reducible first | exact HB.out | apply pA_ | apply pN_ | apply pD_ | refine bs_ ?_ GE208.out | refine bs_ ?_ GE209.out | refine bs_ ?_ GE218.out | refine bs_ ?_ GE219.out) | exact HB.out)) hb)
                  clear HO213
                  clear BK208
                  clear BK209
                  clear BK218
                  clear BK219
                  clear HB
                  have HO213 := n0_
                  have HO217 := n1_
                  have BK208 := n2_
                  have BK209 := n3_
                  have BK218 := n4_
                  have BK219 := n5_
                  have HB := n6_
                  clear n0_ n1_ n2_ n3_ n4_ n5_ n6_
                  (try clear hb)
                  (try clear hb2)
                  (try clear hk)
                  (try clear hi)
                  (try clear ho0)
                  refine hK.out _ _ ⟨(bc_ BK208.out 0).trans rfl, (bc_ BK208.out 1).trans rfl, (bc_ BK209.out 0).trans rfl, (bc_ BK209.out 1).trans rfl⟩ (fun hHeld => ?_)
                  clear hK K
                  refine norm_ (a' := ?_) ?_ ?_
                  rotate_left
                  · show Act.put _ (some 13) _ = _
                    simp only [Act.put, l1_, l2_, l3_, i64_w, i32_w]
                    rfl
                  exact norm_ (by first | (simp only [putAll, Act.put, l1_, l2_, l3_]; done) | (simp only [putAll, Act.put, l1_, l2_, l3_]; rfl)) (hJ1_3_4_5 (v212, v216, gb218, gb219) _ ⟨hHeld, (by (with_reducible repeat (first | apply Tw.V_alloc | apply Tw.V_drewN | apply Tw.V_drew)); exact HO213.out), (by (with_reducible repeat (first | apply Tw.V_alloc | apply Tw.V_drewN | apply Tw.V_drew)); exact HO217.out), (by (with_reducible repeat (first | refine bN_ ?_ _ | refine bD_ ?_ | refine bA_ ?_ _)); exact BK208.out), (by (with_reducible repeat (first | refine bN_ ?_ _ | refine bD_ ?_ | refine bA_ ?_ _)); exact BK209.out), (by (with_reducible repeat (first | refine bN_ ?_ _ | refine bD_ ?_ | refine bA_ ?_ _)); exact BK218.out), (by (with_reducible repeat (first | refine bN_ ?_ _ | refine bD_ ?_ | refine bA_ ?_ _)); exact BK219.out), GW218.out, GE218.out, NB208_218.out, NB218_208.out, NB209_218.out, NB218_209.out, NB219_218.out, NB218_219.out, GW219.out, GE219.out, NB208_219.out, NB219_208.out, NB209_219.out, NB219_209.out, (by repeat (first | (with_reducible first | exact HB.out | apply pA_ | apply pN_ | apply pD_ | refine bs_ ?_ GE208.out | refine bs_ ?_ GE209.out | refine bs_ ?_ GE218.out | refine bs_ ?_ GE219.out) | exact HB.out))⟩)
              · skip
                rintro ⟨v212, v216, gb219⟩ w26 ⟨hS_, h0_, h1_, h2_, h3_, h4_, h5_, h6_, h7_, h8_, h9_, h10_, h11_⟩
                have n0_ : Aside0 (Tw.V (Kd.int .i64) 3 w26 w.heap.size (fun k_ => k_ ≠ gb208 ∧ k_ ≠ gb209 ∧ k_ ≠ gb219) v212 t211) := ⟨h0_⟩
                have n1_ : Aside0 (Tw.V (Kd.int .i64) 3 w26 w.heap.size (fun k_ => k_ ≠ gb208 ∧ k_ ≠ gb209 ∧ k_ ≠ gb219) v216 t215) := ⟨h1_⟩
                have n2_ : Aside0 (w26.heap[gb208]? = some (.cells #[.int .i64 a0_0, .slice A0_1 l0_1.length c0_1] 32 (0, 0))) := ⟨h2_⟩
                have n3_ : Aside0 (w26.heap[gb209]? = some (.cells #[.int .i64 a1_0, .slice A1_1 l1_1.length c1_1] 32 (0, 0))) := ⟨h3_⟩
                have n4_ : Aside0 (w26.heap[gb219]? = some (.cells #[.int .i64 0, .slice none 0 0] 32 (0, 0))) := ⟨h4_⟩
                have n5_ : Aside0 (w.heap.size ≤ gb219) := ⟨h5_⟩
                have n6_ : Aside0 (w.heap.size ≤ gb219) := ⟨h6_⟩
                have n7_ : Aside0 (gb208 ≠ gb219) := ⟨h7_⟩
                have n8_ : Aside0 (gb219 ≠ gb208) := ⟨h8_⟩
                have n9_ : Aside0 (gb209 ≠ gb219) := ⟨h9_⟩
                have n10_ : Aside0 (gb219 ≠ gb209) := ⟨h10_⟩
                have n11_ : Aside0 (Below w.heap.size w w26) := ⟨h11_⟩
                clear BK208
                clear BK209
                clear HB
                clear h0_ h1_ h2_ h3_ h4_ h5_ h6_ h7_ h8_ h9_ h10_ h11_
                have HO213 := n0_
                have HO217 := n1_
                have BK208 := n2_
                have BK209 := n3_
                have BK219 := n4_
                have GW219 := n5_
                have GE219 := n6_
                have NB208_219 := n7_
                have NB219_208 := n8_
                have NB209_219 := n9_
                have NB219_209 := n10_
                have HB := n11_
                clear n0_ n1_ n2_ n3_ n4_ n5_ n6_ n7_ n8_ n9_ n10_ n11_
                have hHeld : w26.cell? ⟨gb208, 0, none⟩ = some (.int .i64 a0_0) ∧ w26.cell? ⟨gb208, 1, none⟩ = some (.slice A0_1 l0_1.length c0_1) ∧ w26.cell? ⟨gb209, 0, none⟩ = some (.int .i64 a1_0) ∧ w26.cell? ⟨gb209, 1, none⟩ = some (.slice A1_1 l1_1.length c1_1) := hS_
                refine norm_ (a' := ?_) ?_ ?_
                rotate_left
                · simp only [putAll, Act.put, l1_, l2_, l3_]
                  rfl
                refine one_ (i := 4) (N := some 5) #[true, true, true, true, true, true, false, false] rfl rfl (one_of HT_.out (by kernel_rfl)) (by decide) (fun K hK => ?_)
                refine box_step ?hg (N := 5) ?hd (cs := #[.int .i64 0, .slice none 0 0]) (t := 32) ?hr ?_; (case hd => rfl); (case hg => rfl); (case hr => first | (go_simp; done) | (go_simp; rfl))
                intro gb218 hg w27 hbox hb
                have n0_ := A_ (Tw.V_below (Tw.V_elderB (by (with_reducible repeat (first | apply Tw.V_alloc | apply Tw.V_drewN | apply Tw.V_drew)); exact HO213.out) gb218 (Nat.le_of_eq hg.symm)) hb)
                have n1_ := A_ (Tw.V_below (Tw.V_elderB (by (with_reducible repeat (first | apply Tw.V_alloc | apply Tw.V_drewN | apply Tw.V_drew)); exact HO217.out) gb218 (Nat.le_of_eq hg.symm)) hb)
                have n2_ := A_ (blk_below (g := gb208) (o := .cells #[.int .i64 a0_0, .slice A0_1 l0_1.length c0_1] 32 (0, 0)) (by (with_reducible repeat (first | refine bN_ ?_ _ | refine bD_ ?_ | refine bA_ ?_ _)); exact BK208.out) hb)
                have n3_ := A_ (blk_below (g := gb209) (o := .cells #[.int .i64 a1_0, .slice A1_1 l1_1.length c1_1] 32 (0, 0)) (by (with_reducible repeat (first | refine bN_ ?_ _ | refine bD_ ?_ | refine bA_ ?_ _)); exact BK209.out) hb)
                have n4_ := A_ (blk_below (g := gb219) (o := .cells #[.int .i64 0, .slice none 0 0] 32 (0, 0)) (by (with_reducible repeat (first | refine bN_ ?_ _ | refine bD_ ?_ | refine bA_ ?_ _)); exact BK219.out) hb)
                have n5_ := A_ (below_step (by repeat (first | (with_reducible first | exact HB.out | apply pA_ | apply pN_ | apply pD_ | refine bs_ ?_ GE208.out | refine bs_ ?_ GE209.out | refine bs_ ?_ GE219.out) | exact HB.out)) hb)
                have n6_ := A_ (hbox)
                have n7_ := A_ ((by rw [hg]; exact (below_size (by repeat (first | (with_reducible first | exact HB.out | apply pA_ | apply pN_ | apply pD_ | refine bs_ ?_ GE208.out | refine bs_ ?_ GE209.out | refine bs_ ?_ GE219.out) | exact HB.out))) : w.heap.size ≤ gb218))
                have n8_ := A_ ((by rw [hg]; exact (below_size (by repeat (first | (with_reducible first | exact HB.out | apply pA_ | apply pN_ | apply pD_ | refine bs_ ?_ GE208.out | refine bs_ ?_ GE209.out | refine bs_ ?_ GE219.out) | exact HB.out))) : w.heap.size ≤ gb218))
                have n9_ := A_ ((by rw [hg]; exact Nat.ne_of_lt (blk_lt (g := gb208) (o := .cells #[.int .i64 a0_0, .slice A0_1 l0_1.length c0_1] 32 (0, 0)) (by (with_reducible repeat (first | refine bN_ ?_ _ | refine bD_ ?_ | refine bA_ ?_ _)); exact BK208.out)) : gb208 ≠ gb218))
                have n10_ := A_ ((by rw [hg]; exact Nat.ne_of_gt (blk_lt (g := gb208) (o := .cells #[.int .i64 a0_0, .slice A0_1 l0_1.length c0_1] 32 (0, 0)) (by (with_reducible repeat (first | refine bN_ ?_ _ | refine bD_ ?_ | refine bA_ ?_ _)); exact BK208.out)) : gb218 ≠ gb208))
                have n11_ := A_ ((by rw [hg]; exact Nat.ne_of_lt (blk_lt (g := gb209) (o := .cells #[.int .i64 a1_0, .slice A1_1 l1_1.length c1_1] 32 (0, 0)) (by (with_reducible repeat (first | refine bN_ ?_ _ | refine bD_ ?_ | refine bA_ ?_ _)); exact BK209.out)) : gb209 ≠ gb218))
                have n12_ := A_ ((by rw [hg]; exact Nat.ne_of_gt (blk_lt (g := gb209) (o := .cells #[.int .i64 a1_0, .slice A1_1 l1_1.length c1_1] 32 (0, 0)) (by (with_reducible repeat (first | refine bN_ ?_ _ | refine bD_ ?_ | refine bA_ ?_ _)); exact BK209.out)) : gb218 ≠ gb209))
                have n13_ := A_ ((by rw [hg]; exact Nat.ne_of_lt (blk_lt (g := gb219) (o := .cells #[.int .i64 0, .slice none 0 0] 32 (0, 0)) (by (with_reducible repeat (first | refine bN_ ?_ _ | refine bD_ ?_ | refine bA_ ?_ _)); exact BK219.out)) : gb219 ≠ gb218))
                have n14_ := A_ ((by rw [hg]; exact Nat.ne_of_gt (blk_lt (g := gb219) (o := .cells #[.int .i64 0, .slice none 0 0] 32 (0, 0)) (by (with_reducible repeat (first | refine bN_ ?_ _ | refine bD_ ?_ | refine bA_ ?_ _)); exact BK219.out)) : gb218 ≠ gb219))
                clear HO213
                clear HO217
                clear BK208
                clear BK209
                clear BK219
                clear HB
                have HO213 := n0_
                have HO217 := n1_
                have BK208 := n2_
                have BK209 := n3_
                have BK219 := n4_
                have HB := n5_
                have BK218 := n6_
                have GW218 := n7_
                have GE218 := n8_
                have NB208_218 := n9_
                have NB218_208 := n10_
                have NB209_218 := n11_
                have NB218_209 := n12_
                have NB219_218 := n13_
                have NB218_219 := n14_
                clear n0_ n1_ n2_ n3_ n4_ n5_ n6_ n7_ n8_ n9_ n10_ n11_ n12_ n13_ n14_
                clear hb hbox hg
                refine hK.out _ _ ⟨(bc_ BK208.out 0).trans rfl, (bc_ BK208.out 1).trans rfl, (bc_ BK209.out 0).trans rfl, (bc_ BK209.out 1).trans rfl⟩ (fun hHeld => ?_)
                clear hK K
                refine norm_ (a' := ?_) ?_ ?_
                rotate_left
                · show Act.put _ (some 5) _ = _
                  simp only [Act.put, l1_, l2_, l3_, i64_w, i32_w]
                  rfl
                exact norm_ (by first | (simp only [putAll, Act.put, l1_, l2_, l3_]; done) | (simp only [putAll, Act.put, l1_, l2_, l3_]; rfl)) (hJ1_3_4_5 (v212, v216, gb218, gb219) _ ⟨hHeld, (by (with_reducible repeat (first | apply Tw.V_alloc | apply Tw.V_drewN | apply Tw.V_drew)); exact Tw.V_mono HO213.out (fun _ hk => ⟨hk.1.1, ⟨hk.1.2.1, ⟨hk.2, hk.1.2.2⟩⟩⟩)), (by (with_reducible repeat (first | apply Tw.V_alloc | apply Tw.V_drewN | apply Tw.V_drew)); exact Tw.V_mono HO217.out (fun _ hk => ⟨hk.1.1, ⟨hk.1.2.1, ⟨hk.2, hk.1.2.2⟩⟩⟩)), (by (with_reducible repeat (first | refine bN_ ?_ _ | refine bD_ ?_ | refine bA_ ?_ _)); exact BK208.out), (by (with_reducible repeat (first | refine bN_ ?_ _ | refine bD_ ?_ | refine bA_ ?_ _)); exact BK209.out), (by (with_reducible repeat (first | refine bN_ ?_ _ | refine bD_ ?_ | refine bA_ ?_ _)); exact BK218.out), (by (with_reducible repeat (first | refine bN_ ?_ _ | refine bD_ ?_ | refine bA_ ?_ _)); exact BK219.out), GW218.out, GE218.out, NB208_218.out, NB218_208.out, NB209_218.out, NB218_209.out, NB219_218.out, NB218_219.out, GW219.out, GE219.out, NB208_219.out, NB219_208.out, NB209_219.out, NB219_209.out, (by repeat (first | (with_reducible first | exact HB.out | apply pA_ | apply pN_ | apply pD_ | refine bs_ ?_ GE208.out | refine bs_ ?_ GE209.out | refine bs_ ?_ GE219.out | refine bs_ ?_ GE218.out) | exact HB.out))⟩)
            · skip
              rintro ⟨v212, v216, gb218⟩ w26 ⟨hS_, h0_, h1_, h2_, h3_, h4_, h5_, h6_, h7_, h8_, h9_, h10_, h11_⟩
              have n0_ : Aside0 (Tw.V (Kd.int .i64) 3 w26 w.heap.size (fun k_ => k_ ≠ gb208 ∧ k_ ≠ gb209 ∧ k_ ≠ gb218) v212 t211) := ⟨h0_⟩
              have n1_ : Aside0 (Tw.V (Kd.int .i64) 3 w26 w.heap.size (fun k_ => k_ ≠ gb208 ∧ k_ ≠ gb209 ∧ k_ ≠ gb218) v216 t215) := ⟨h1_⟩
              have n2_ : Aside0 (w26.heap[gb208]? = some (.cells #[.int .i64 a0_0, .slice A0_1 l0_1.length c0_1] 32 (0, 0))) := ⟨h2_⟩
              have n3_ : Aside0 (w26.heap[gb209]? = some (.cells #[.int .i64 a1_0, .slice A1_1 l1_1.length c1_1] 32 (0, 0))) := ⟨h3_⟩
              have n4_ : Aside0 (w26.heap[gb218]? = some (.cells #[.int .i64 0, .slice none 0 0] 32 (0, 0))) := ⟨h4_⟩
              have n5_ : Aside0 (w.heap.size ≤ gb218) := ⟨h5_⟩
              have n6_ : Aside0 (w.heap.size ≤ gb218) := ⟨h6_⟩
              have n7_ : Aside0 (gb208 ≠ gb218) := ⟨h7_⟩
              have n8_ : Aside0 (gb218 ≠ gb208) := ⟨h8_⟩
              have n9_ : Aside0 (gb209 ≠ gb218) := ⟨h9_⟩
              have n10_ : Aside0 (gb218 ≠ gb209) := ⟨h10_⟩
              have n11_ : Aside0 (Below w.heap.size w w26) := ⟨h11_⟩
              clear BK208
              clear BK209
              clear HB
              clear h0_ h1_ h2_ h3_ h4_ h5_ h6_ h7_ h8_ h9_ h10_ h11_
              have HO213 := n0_
              have HO217 := n1_
              have BK208 := n2_
              have BK209 := n3_
              have BK218 := n4_
              have GW218 := n5_
              have GE218 := n6_
              have NB208_218 := n7_
              have NB218_208 := n8_
              have NB209_218 := n9_
              have NB218_209 := n10_
              have HB := n11_
              clear n0_ n1_ n2_ n3_ n4_ n5_ n6_ n7_ n8_ n9_ n10_ n11_
              have hHeld : w26.cell? ⟨gb208, 0, none⟩ = some (.int .i64 a0_0) ∧ w26.cell? ⟨gb208, 1, none⟩ = some (.slice A0_1 l0_1.length c0_1) ∧ w26.cell? ⟨gb209, 0, none⟩ = some (.int .i64 a1_0) ∧ w26.cell? ⟨gb209, 1, none⟩ = some (.slice A1_1 l1_1.length c1_1) := hS_
              refine norm_ (a' := ?_) ?_ ?_
              rotate_left
              · simp only [putAll, Act.put, l1_, l2_, l3_]
                rfl
              refine one_ (i := 5) (N := some 6) #[true, true, true, true, true, true, false, false] rfl rfl (one_of HT_.out (by kernel_rfl)) (by decide) (fun K hK => ?_)
              refine box_step ?hg (N := 6) ?hd (cs := #[.int .i64 0, .slice none 0 0]) (t := 32) ?hr ?_; (case hd => rfl); (case hg => rfl); (case hr => first | (go_simp; done) | (go_simp; rfl))
              intro gb219 hg w27 hbox hb
              have n0_ := A_ (Tw.V_below (Tw.V_elderB (by (with_reducible repeat (first | apply Tw.V_alloc | apply Tw.V_drewN | apply Tw.V_drew)); exact HO213.out) gb219 (Nat.le_of_eq hg.symm)) hb)
              have n1_ := A_ (Tw.V_below (Tw.V_elderB (by (with_reducible repeat (first | apply Tw.V_alloc | apply Tw.V_drewN | apply Tw.V_drew)); exact HO217.out) gb219 (Nat.le_of_eq hg.symm)) hb)
              have n2_ := A_ (blk_below (g := gb208) (o := .cells #[.int .i64 a0_0, .slice A0_1 l0_1.length c0_1] 32 (0, 0)) (by (with_reducible repeat (first | refine bN_ ?_ _ | refine bD_ ?_ | refine bA_ ?_ _)); exact BK208.out) hb)
              have n3_ := A_ (blk_below (g := gb209) (o := .cells #[.int .i64 a1_0, .slice A1_1 l1_1.length c1_1] 32 (0, 0)) (by (with_reducible repeat (first | refine bN_ ?_ _ | refine bD_ ?_ | refine bA_ ?_ _)); exact BK209.out) hb)
              have n4_ := A_ (blk_below (g := gb218) (o := .cells #[.int .i64 0, .slice none 0 0] 32 (0, 0)) (by (with_reducible repeat (first | refine bN_ ?_ _ | refine bD_ ?_ | refine bA_ ?_ _)); exact BK218.out) hb)
              have n5_ := A_ (below_step (by repeat (first | (with_reducible first | exact HB.out | apply pA_ | apply pN_ | apply pD_ | refine bs_ ?_ GE208.out | refine bs_ ?_ GE209.out | refine bs_ ?_ GE218.out) | exact HB.out)) hb)
              have n6_ := A_ (hbox)
              have n7_ := A_ ((by rw [hg]; exact (below_size (by repeat (first | (with_reducible first | exact HB.out | apply pA_ | apply pN_ | apply pD_ | refine bs_ ?_ GE208.out | refine bs_ ?_ GE209.out | refine bs_ ?_ GE218.out) | exact HB.out))) : w.heap.size ≤ gb219))
              have n8_ := A_ ((by rw [hg]; exact (below_size (by repeat (first | (with_reducible first | exact HB.out | apply pA_ | apply pN_ | apply pD_ | refine bs_ ?_ GE208.out | refine bs_ ?_ GE209.out | refine bs_ ?_ GE218.out) | exact HB.out))) : w.heap.size ≤ gb219))
              have n9_ := A_ ((by rw [hg]; exact Nat.ne_of_lt (blk_lt (g := gb208) (o := .cells #[.int .i64 a0_0, .slice A0_1 l0_1.length c0_1] 32 (0, 0)) (by (with_reducible repeat (first | refine bN_ ?_ _ | refine bD_ ?_ | refine bA_ ?_ _)); exact BK208.out)) : gb208 ≠ gb219))
              have n10_ := A_ ((by rw [hg]; exact Nat.ne_of_gt (blk_lt (g := gb208) (o := .cells #[.int .i64 a0_0, .slice A0_1 l0_1.length c0_1] 32 (0, 0)) (by (with_reducible repeat (first | refine bN_ ?_ _ | refine bD_ ?_ | refine bA_ ?_ _)); exact BK208.out)) : gb219 ≠ gb208))
              have n11_ := A_ ((by rw [hg]; exact Nat.ne_of_lt (blk_lt (g := gb209) (o := .cells #[.int .i64 a1_0, .slice A1_1 l1_1.length c1_1] 32 (0, 0)) (by (with_reducible repeat (first | refine bN_ ?_ _ | refine bD_ ?_ | refine bA_ ?_ _)); exact BK209.out)) : gb209 ≠ gb219))
              have n12_ := A_ ((by rw [hg]; exact Nat.ne_of_gt (blk_lt (g := gb209) (o := .cells #[.int .i64 a1_0, .slice A1_1 l1_1.length c1_1] 32 (0, 0)) (by (with_reducible repeat (first | refine bN_ ?_ _ | refine bD_ ?_ | refine bA_ ?_ _)); exact BK209.out)) : gb219 ≠ gb209))
              have n13_ := A_ ((by rw [hg]; exact Nat.ne_of_lt (blk_lt (g := gb218) (o := .cells #[.int .i64 0, .slice none 0 0] 32 (0, 0)) (by (with_reducible repeat (first | refine bN_ ?_ _ | refine bD_ ?_ | refine bA_ ?_ _)); exact BK218.out)) : gb218 ≠ gb219))
              have n14_ := A_ ((by rw [hg]; exact Nat.ne_of_gt (blk_lt (g := gb218) (o := .cells #[.int .i64 0, .slice none 0 0] 32 (0, 0)) (by (with_reducible repeat (first | refine bN_ ?_ _ | refine bD_ ?_ | refine bA_ ?_ _)); exact BK218.out)) : gb219 ≠ gb218))
              clear HO213
              clear HO217
              clear BK208
              clear BK209
              clear BK218
              clear HB
              have HO213 := n0_
              have HO217 := n1_
              have BK208 := n2_
              have BK209 := n3_
              have BK218 := n4_
              have HB := n5_
              have BK219 := n6_
              have GW219 := n7_
              have GE219 := n8_
              have NB208_219 := n9_
              have NB219_208 := n10_
              have NB209_219 := n11_
              have NB219_209 := n12_
              have NB218_219 := n13_
              have NB219_218 := n14_
              clear n0_ n1_ n2_ n3_ n4_ n5_ n6_ n7_ n8_ n9_ n10_ n11_ n12_ n13_ n14_
              clear hb hbox hg
              refine hK.out _ _ ⟨(bc_ BK208.out 0).trans rfl, (bc_ BK208.out 1).trans rfl, (bc_ BK209.out 0).trans rfl, (bc_ BK209.out 1).trans rfl⟩ (fun hHeld => ?_)
              clear hK K
              refine norm_ (a' := ?_) ?_ ?_
              rotate_left
              · show Act.put _ (some 6) _ = _
                simp only [Act.put, l1_, l2_, l3_, i64_w, i32_w]
                rfl
              exact norm_ (by first | (simp only [putAll, Act.put, l1_, l2_, l3_]; done) | (simp only [putAll, Act.put, l1_, l2_, l3_]; rfl)) (hJ1_3_4_5 (v212, v216, gb218, gb219) _ ⟨hHeld, (by (with_reducible repeat (first | apply Tw.V_alloc | apply Tw.V_drewN | apply Tw.V_drew)); exact Tw.V_mono HO213.out (fun _ hk => ⟨hk.1.1, ⟨hk.1.2.1, ⟨hk.1.2.2, hk.2⟩⟩⟩)), (by (with_reducible repeat (first | apply Tw.V_alloc | apply Tw.V_drewN | apply Tw.V_drew)); exact Tw.V_mono HO217.out (fun _ hk => ⟨hk.1.1, ⟨hk.1.2.1, ⟨hk.1.2.2, hk.2⟩⟩⟩)), (by (with_reducible repeat (first | refine bN_ ?_ _ | refine bD_ ?_ | refine bA_ ?_ _)); exact BK208.out), (by (with_reducible repeat (first | refine bN_ ?_ _ | refine bD_ ?_ | refine bA_ ?_ _)); exact BK209.out), (by (with_reducible repeat (first | refine bN_ ?_ _ | refine bD_ ?_ | refine bA_ ?_ _)); exact BK218.out), (by (with_reducible repeat (first | refine bN_ ?_ _ | refine bD_ ?_ | refine bA_ ?_ _)); exact BK219.out), GW218.out, GE218.out, NB208_218.out, NB218_208.out, NB209_218.out, NB218_209.out, NB219_218.out, NB218_219.out, GW219.out, GE219.out, NB208_219.out, NB219_208.out, NB209_219.out, NB219_209.out, (by repeat (first | (with_reducible first | exact HB.out | apply pA_ | apply pN_ | apply pD_ | refine bs_ ?_ GE208.out | refine bs_ ?_ GE209.out | refine bs_ ?_ GE218.out | refine bs_ ?_ GE219.out) | exact HB.out))⟩)
          rintro ⟨v212, v216, gb218, gb219⟩ w27 ⟨hS_, h0_, h1_, h2_, h3_, h4_, h5_, h6_, h7_, h8_, h9_, h10_, h11_, h12_, h13_, h14_, h15_, h16_, h17_, h18_, h19_, h20_⟩
          have n0_ : Aside0 (Tw.V (Kd.int .i64) 3 w27 w.heap.size (fun k_ => k_ ≠ gb208 ∧ k_ ≠ gb209 ∧ k_ ≠ gb218 ∧ k_ ≠ gb219) v212 t211) := ⟨h0_⟩
          have n1_ : Aside0 (Tw.V (Kd.int .i64) 3 w27 w.heap.size (fun k_ => k_ ≠ gb208 ∧ k_ ≠ gb209 ∧ k_ ≠ gb218 ∧ k_ ≠ gb219) v216 t215) := ⟨h1_⟩
          have n2_ : Aside0 (w27.heap[gb208]? = some (.cells #[.int .i64 a0_0, .slice A0_1 l0_1.length c0_1] 32 (0, 0))) := ⟨h2_⟩
          have n3_ : Aside0 (w27.heap[gb209]? = some (.cells #[.int .i64 a1_0, .slice A1_1 l1_1.length c1_1] 32 (0, 0))) := ⟨h3_⟩
          have n4_ : Aside0 (w27.heap[gb218]? = some (.cells #[.int .i64 0, .slice none 0 0] 32 (0, 0))) := ⟨h4_⟩
          have n5_ : Aside0 (w27.heap[gb219]? = some (.cells #[.int .i64 0, .slice none 0 0] 32 (0, 0))) := ⟨h5_⟩
          have n6_ : Aside0 (w.heap.size ≤ gb218) := ⟨h6_⟩
          have n7_ : Aside0 (w.heap.size ≤ gb218) := ⟨h7_⟩
          have n8_ : Aside0 (gb208 ≠ gb218) := ⟨h8_⟩
          have n9_ : Aside0 (gb218 ≠ gb208) := ⟨h9_⟩
          have n10_ : Aside0 (gb209 ≠ gb218) := ⟨h10_⟩
          have n11_ : Aside0 (gb218 ≠ gb209) := ⟨h11_⟩
          have n12_ : Aside0 (gb219 ≠ gb218) := ⟨h12_⟩
          have n13_ : Aside0 (gb218 ≠ gb219) := ⟨h13_⟩
          have n14_ : Aside0 (w.heap.size ≤ gb219) := ⟨h14_⟩
          have n15_ : Aside0 (w.heap.size ≤ gb219) := ⟨h15_⟩
          have n16_ : Aside0 (gb208 ≠ gb219) := ⟨h16_⟩
          have n17_ : Aside0 (gb219 ≠ gb208) := ⟨h17_⟩
          have n18_ : Aside0 (gb209 ≠ gb219) := ⟨h18_⟩
          have n19_ : Aside0 (gb219 ≠ gb209) := ⟨h19_⟩
          have n20_ : Aside0 (Below w.heap.size w w27) := ⟨h20_⟩
          clear BK208
          clear BK209
          clear HB
          clear h0_ h1_ h2_ h3_ h4_ h5_ h6_ h7_ h8_ h9_ h10_ h11_ h12_ h13_ h14_ h15_ h16_ h17_ h18_ h19_ h20_
          have HO213 := n0_
          have HO217 := n1_
          have BK208 := n2_
          have BK209 := n3_
          have BK218 := n4_
          have BK219 := n5_
          have GW218 := n6_
          have GE218 := n7_
          have NB208_218 := n8_
          have NB218_208 := n9_
          have NB209_218 := n10_
          have NB218_209 := n11_
          have NB219_218 := n12_
          have NB218_219 := n13_
          have GW219 := n14_
          have GE219 := n15_
          have NB208_219 := n16_
          have NB219_208 := n17_
          have NB209_219 := n18_
          have NB219_209 := n19_
          have HB := n20_
          clear n0_ n1_ n2_ n3_ n4_ n5_ n6_ n7_ n8_ n9_ n10_ n11_ n12_ n13_ n14_ n15_ n16_ n17_ n18_ n19_ n20_
          have hHeld : w27.cell? ⟨gb208, 0, none⟩ = some (.int .i64 a0_0) ∧ w27.cell? ⟨gb208, 1, none⟩ = some (.slice A0_1 l0_1.length c0_1) ∧ w27.cell? ⟨gb209, 0, none⟩ = some (.int .i64 a1_0) ∧ w27.cell? ⟨gb209, 1, none⟩ = some (.slice A1_1 l1_1.length c1_1) := hS_
          obtain ⟨Ao29, co29, eo29⟩ := Tw.V_slice HO213.out
          (first | subst eo29 | (injection eo29 with f1_ f2_ f3_; have f4_ := f1_.symm; have f5_ := f3_.symm; clear f1_ f2_ f3_; subst f4_; subst f5_))
          obtain ⟨Ao32, co32, eo32⟩ := Tw.V_slice HO217.out
          (first | subst eo32 | (injection eo32 with f1_ f2_ f3_; have f4_ := f1_.symm; have f5_ := f3_.symm; clear f1_ f2_ f3_; subst f4_; subst f5_))
          refine norm_ (a' := ?_) ?_ ?_
          rotate_left
          · simp only [putAll, Act.put, l1_, l2_, l3_]
            rfl
          refine one_ (i := 6) (N := none) #[true, true, true, true, true, true, true, false] rfl rfl (one_of HT_.out (by kernel_rfl)) (by decide) (fun K hK => ?_)
          have hs28 : w27.cell? ⟨gb218, 0, none⟩ = some (.int .i64 0) := (bc_ BK218.out 0).trans rfl
          have hfs28 := blk_frozen BK218.out 0
          have hns28_0 := NB208_218.out
          have hns28_1 := NB209_218.out
          have hns28_3 := NB219_218.out
          have hms28_0 := NB218_208.out
          have hms28_1 := NB218_209.out
          have hms28_3 := NB218_219.out
          have hs30 : w27.cell? ⟨gb218, 1, none⟩ = some (.slice none 0 0) := (bc_ BK218.out 1).trans rfl
          have hfs30 := blk_frozen BK218.out 1
          have hns30_0 := NB208_218.out
          have hns30_1 := NB209_218.out
          have hns30_3 := NB219_218.out
          have hms30_0 := NB218_208.out
          have hms30_1 := NB218_209.out
          have hms30_3 := NB218_219.out
          refine skip_ (w1 := ?_) (by rfl) rfl ?_ ?_
          rotate_left
          · go_simp
            rfl
          refine hK.out _ _ ⟨((cell_far (p := ⟨gb218, _, none⟩) NB208_218.out _).trans (((cell_far (p := ⟨gb218, _, none⟩) NB208_218.out _).trans (hHeld.1)))), ((cell_far (p := ⟨gb218, _, none⟩) NB208_218.out _).trans (((cell_far (p := ⟨gb218, _, none⟩) NB208_218.out _).trans (hHeld.2.1)))), ((cell_far (p := ⟨gb218, _, none⟩) NB209_218.out _).trans (((cell_far (p := ⟨gb218, _, none⟩) NB209_218.out _).trans (hHeld.2.2.1)))), ((cell_far (p := ⟨gb218, _, none⟩) NB209_218.out _).trans (((cell_far (p := ⟨gb218, _, none⟩) NB209_218.out _).trans (hHeld.2.2.2))))⟩ (fun hHeld => ?_)
          clear hK K
          refine one_ (i := 7) (N := none) #[true, true, true, true, true, true, true, true] rfl rfl (one_of HT_.out (by kernel_rfl)) (by decide) (fun K hK => ?_)
          have hs31 : w27.cell? ⟨gb219, 0, none⟩ = some (.int .i64 0) := (bc_ BK219.out 0).trans rfl
          have hfs31 := blk_frozen BK219.out 0
          have hns31_0 := NB208_219.out
          have hns31_1 := NB209_219.out
          have hns31_2 := NB218_219.out
          have hms31_0 := NB219_208.out
          have hms31_1 := NB219_209.out
          have hms31_2 := NB219_218.out
          have hs33 : w27.cell? ⟨gb219, 1, none⟩ = some (.slice none 0 0) := (bc_ BK219.out 1).trans rfl
          have hfs33 := blk_frozen BK219.out 1
          have hns33_0 := NB208_219.out
          have hns33_1 := NB209_219.out
          have hns33_2 := NB218_219.out
          have hms33_0 := NB219_208.out
          have hms33_1 := NB219_209.out
          have hms33_2 := NB219_218.out
          refine skip_ (w1 := ?_) (by rfl) rfl ?_ ?_
          rotate_left
          · go_simp
            rfl
          refine hK.out _ _ ⟨((cell_far (p := ⟨gb219, _, none⟩) NB208_219.out _).trans (((cell_far (p := ⟨gb219, _, none⟩) NB208_219.out _).trans (hHeld.1)))), ((cell_far (p := ⟨gb219, _, none⟩) NB208_219.out _).trans (((cell_far (p := ⟨gb219, _, none⟩) NB208_219.out _).trans (hHeld.2.1)))), ((cell_far (p := ⟨gb219, _, none⟩) NB209_219.out _).trans (((cell_far (p := ⟨gb219, _, none⟩) NB209_219.out _).trans (hHeld.2.2.1)))), ((cell_far (p := ⟨gb219, _, none⟩) NB209_219.out _).trans (((cell_far (p := ⟨gb219, _, none⟩) NB209_219.out _).trans (hHeld.2.2.2))))⟩ (fun hHeld => ?_)
          clear hK K
          refine done_ (done_of HT_.out (by kernel_rfl)) ?_
          try go_wp2
          have n0_ : Aside0 (Tw.V (Kd.int .i64) 3 ((((w27.setCell ⟨gb218, 0, none⟩ (.int .i64 t210)).setCell ⟨gb218, 1, none⟩ (.slice Ao29 t211.length co29)).setCell ⟨gb219, 0, none⟩ (.int .i64 t214)).setCell ⟨gb219, 1, none⟩ (.slice Ao32 t215.length co32)) w.heap.size (fun k_ => k_ ≠ gb208 ∧ k_ ≠ gb209 ∧ k_ ≠ gb218 ∧ k_ ≠ gb219) (.slice Ao29 t211.length co29) t211) := ⟨by (with_reducible repeat (first | apply Tw.V_alloc | apply Tw.V_drewN | apply Tw.V_drew)); exact Tw.V_mono (Tw.V_far (p := ⟨gb219, 1, none⟩) (Tw.V_far (p := ⟨gb219, 0, none⟩) (Tw.V_far (p := ⟨gb218, 1, none⟩) (Tw.V_far (p := ⟨gb218, 0, none⟩) (Tw.V_mono (Tw.V_mono HO213.out (fun k_ hk => (⟨hk, hk.2.2.1⟩ : _ ∧ k_ ≠ gb218))) (fun k_ hk => (⟨hk, hk.1.2.2.2⟩ : _ ∧ k_ ≠ gb219))) (fun _ hk => hk.1.2) (.int .i64 t210)) (fun _ hk => hk.1.2) (.slice Ao29 t211.length co29)) (fun _ hk => hk.2) (.int .i64 t214)) (fun _ hk => hk.2) (.slice Ao32 t215.length co32)) (fun _ hk => ⟨hk.1.1.1, ⟨hk.1.1.2.1, ⟨hk.1.1.2.2.1, hk.1.1.2.2.2⟩⟩⟩)⟩
          have n1_ : Aside0 (Tw.V (Kd.int .i64) 3 ((((w27.setCell ⟨gb218, 0, none⟩ (.int .i64 t210)).setCell ⟨gb218, 1, none⟩ (.slice Ao29 t211.length co29)).setCell ⟨gb219, 0, none⟩ (.int .i64 t214)).setCell ⟨gb219, 1, none⟩ (.slice Ao32 t215.length co32)) w.heap.size (fun k_ => k_ ≠ gb208 ∧ k_ ≠ gb209 ∧ k_ ≠ gb218 ∧ k_ ≠ gb219) (.slice Ao32 t215.length co32) t215) := ⟨by (with_reducible repeat (first | apply Tw.V_alloc | apply Tw.V_drewN | apply Tw.V_drew)); exact Tw.V_mono (Tw.V_far (p := ⟨gb219, 1, none⟩) (Tw.V_far (p := ⟨gb219, 0, none⟩) (Tw.V_far (p := ⟨gb218, 1, none⟩) (Tw.V_far (p := ⟨gb218, 0, none⟩) (Tw.V_mono (Tw.V_mono HO217.out (fun k_ hk => (⟨hk, hk.2.2.1⟩ : _ ∧ k_ ≠ gb218))) (fun k_ hk => (⟨hk, hk.1.2.2.2⟩ : _ ∧ k_ ≠ gb219))) (fun _ hk => hk.1.2) (.int .i64 t210)) (fun _ hk => hk.1.2) (.slice Ao29 t211.length co29)) (fun _ hk => hk.2) (.int .i64 t214)) (fun _ hk => hk.2) (.slice Ao32 t215.length co32)) (fun _ hk => ⟨hk.1.1.1, ⟨hk.1.1.2.1, ⟨hk.1.1.2.2.1, hk.1.1.2.2.2⟩⟩⟩)⟩
          have n2_ : Aside0 (((((w27.setCell ⟨gb218, 0, none⟩ (.int .i64 t210)).setCell ⟨gb218, 1, none⟩ (.slice Ao29 t211.length co29)).setCell ⟨gb219, 0, none⟩ (.int .i64 t214)).setCell ⟨gb219, 1, none⟩ (.slice Ao32 t215.length co32)).heap[gb208]? = some (.cells #[.int .i64 a0_0, .slice A0_1 l0_1.length c0_1] 32 (0, 0))) := ⟨by (with_reducible repeat (first | refine bN_ ?_ _ | refine bD_ ?_ | refine bA_ ?_ _)); refine blk_far ?_ NB208_219.out _; (with_reducible repeat (first | refine bN_ ?_ _ | refine bD_ ?_ | refine bA_ ?_ _)); refine blk_far ?_ NB208_219.out _; (with_reducible repeat (first | refine bN_ ?_ _ | refine bD_ ?_ | refine bA_ ?_ _)); refine blk_far ?_ NB208_218.out _; (with_reducible repeat (first | refine bN_ ?_ _ | refine bD_ ?_ | refine bA_ ?_ _)); refine blk_far ?_ NB208_218.out _; (with_reducible repeat (first | refine bN_ ?_ _ | refine bD_ ?_ | refine bA_ ?_ _)); exact BK208.out⟩
          have n3_ : Aside0 (((((w27.setCell ⟨gb218, 0, none⟩ (.int .i64 t210)).setCell ⟨gb218, 1, none⟩ (.slice Ao29 t211.length co29)).setCell ⟨gb219, 0, none⟩ (.int .i64 t214)).setCell ⟨gb219, 1, none⟩ (.slice Ao32 t215.length co32)).heap[gb209]? = some (.cells #[.int .i64 a1_0, .slice A1_1 l1_1.length c1_1] 32 (0, 0))) := ⟨by (with_reducible repeat (first | refine bN_ ?_ _ | refine bD_ ?_ | refine bA_ ?_ _)); refine blk_far ?_ NB209_219.out _; (with_reducible repeat (first | refine bN_ ?_ _ | refine bD_ ?_ | refine bA_ ?_ _)); refine blk_far ?_ NB209_219.out _; (with_reducible repeat (first | refine bN_ ?_ _ | refine bD_ ?_ | refine bA_ ?_ _)); refine blk_far ?_ NB209_218.out _; (with_reducible repeat (first | refine bN_ ?_ _ | refine bD_ ?_ | refine bA_ ?_ _)); refine blk_far ?_ NB209_218.out _; (with_reducible repeat (first | refine bN_ ?_ _ | refine bD_ ?_ | refine bA_ ?_ _)); exact BK209.out⟩
          have n4_ : Aside0 (((((w27.setCell ⟨gb218, 0, none⟩ (.int .i64 t210)).setCell ⟨gb218, 1, none⟩ (.slice Ao29 t211.length co29)).setCell ⟨gb219, 0, none⟩ (.int .i64 t214)).setCell ⟨gb219, 1, none⟩ (.slice Ao32 t215.length co32)).heap[gb218]? = some (.cells #[.int .i64 t210, .slice Ao29 t211.length co29] 32 (0, 0))) := ⟨by (with_reducible repeat (first | refine bN_ ?_ _ | refine bD_ ?_ | refine bA_ ?_ _)); refine blk_far ?_ NB218_219.out _; (with_reducible repeat (first | refine bN_ ?_ _ | refine bD_ ?_ | refine bA_ ?_ _)); refine blk_far ?_ NB218_219.out _; (with_reducible repeat (first | refine bN_ ?_ _ | refine bD_ ?_ | refine bA_ ?_ _)); refine blk_put (cs := #[.int .i64 t210, .slice none 0 0]) ?_ 1 _ rfl; (with_reducible repeat (first | refine bN_ ?_ _ | refine bD_ ?_ | refine bA_ ?_ _)); refine blk_put (cs := #[.int .i64 0, .slice none 0 0]) ?_ 0 _ rfl; (with_reducible repeat (first | refine bN_ ?_ _ | refine bD_ ?_ | refine bA_ ?_ _)); exact BK218.out⟩
          have n5_ : Aside0 (((((w27.setCell ⟨gb218, 0, none⟩ (.int .i64 t210)).setCell ⟨gb218, 1, none⟩ (.slice Ao29 t211.length co29)).setCell ⟨gb219, 0, none⟩ (.int .i64 t214)).setCell ⟨gb219, 1, none⟩ (.slice Ao32 t215.length co32)).heap[gb219]? = some (.cells #[.int .i64 t214, .slice Ao32 t215.length co32] 32 (0, 0))) := ⟨by (with_reducible repeat (first | refine bN_ ?_ _ | refine bD_ ?_ | refine bA_ ?_ _)); refine blk_put (cs := #[.int .i64 t214, .slice none 0 0]) ?_ 1 _ rfl; (with_reducible repeat (first | refine bN_ ?_ _ | refine bD_ ?_ | refine bA_ ?_ _)); refine blk_put (cs := #[.int .i64 0, .slice none 0 0]) ?_ 0 _ rfl; (with_reducible repeat (first | refine bN_ ?_ _ | refine bD_ ?_ | refine bA_ ?_ _)); refine blk_far ?_ NB219_218.out _; (with_reducible repeat (first | refine bN_ ?_ _ | refine bD_ ?_ | refine bA_ ?_ _)); refine blk_far ?_ NB219_218.out _; (with_reducible repeat (first | refine bN_ ?_ _ | refine bD_ ?_ | refine bA_ ?_ _)); exact BK219.out⟩
          have n6_ : Aside0 (Below w.heap.size w ((((w27.setCell ⟨gb218, 0, none⟩ (.int .i64 t210)).setCell ⟨gb218, 1, none⟩ (.slice Ao29 t211.length co29)).setCell ⟨gb219, 0, none⟩ (.int .i64 t214)).setCell ⟨gb219, 1, none⟩ (.slice Ao32 t215.length co32))) := ⟨by repeat (first | (with_reducible first | exact HB.out | apply pA_ | apply pN_ | apply pD_ | refine bs_ ?_ GE208.out | refine bs_ ?_ GE209.out | refine bs_ ?_ GE218.out | refine bs_ ?_ GE219.out) | exact HB.out)⟩
          (try clear HO213)
          (try clear HO217)
          (try clear BK208)
          (try clear BK209)
          (try clear BK218)
          (try clear BK219)
          (try clear HB)
          generalize ((((w27.setCell ⟨gb218, 0, none⟩ (.int .i64 t210)).setCell ⟨gb218, 1, none⟩ (.slice Ao29 t211.length co29)).setCell ⟨gb219, 0, none⟩ (.int .i64 t214)).setCell ⟨gb219, 1, none⟩ (.slice Ao32 t215.length co32)) = w34 at n0_ n1_ n2_ n3_ n4_ n5_ n6_ ⊢
          have HO213 := n0_
          have HO217 := n1_
          have BK208 := n2_
          have BK209 := n3_
          have BK218 := n4_
          have BK219 := n5_
          have HB := n6_
          clear n0_ n1_ n2_ n3_ n4_ n5_ n6_
          have n0_ := A_ (Tw.V_drew HO213.out)
          have n1_ := A_ (Tw.V_drew HO217.out)
          have n2_ := A_ (bD_ BK208.out)
          have n3_ := A_ (bD_ BK209.out)
          have n4_ := A_ (bD_ BK218.out)
          have n5_ := A_ (bD_ BK219.out)
          have n6_ := A_ (pD_ HB.out)
          clear HO213
          clear HO217
          clear BK208
          clear BK209
          clear BK218
          clear BK219
          clear HB
          have HO213 := n0_
          have HO217 := n1_
          have BK208 := n2_
          have BK209 := n3_
          have BK218 := n4_
          have BK219 := n5_
          have HB := n6_
          clear n0_ n1_ n2_ n3_ n4_ n5_ n6_
          refine start_ (n := 8) (S := fun w' => w'.cell? ⟨gb218, 0, none⟩ = some (.int .i64 t210) ∧ w'.cell? ⟨gb218, 1, none⟩ = some (.slice Ao29 t211.length co29) ∧ w'.cell? ⟨gb219, 0, none⟩ = some (.int .i64 t214) ∧ w'.cell? ⟨gb219, 1, none⟩ = some (.slice Ao32 t215.length co32)) (ds := []) #[false, false, false, false, false, false, false, false] (by kernel_rfl) rfl rfl ⟨(bc_ BK218.out 0).trans rfl, (bc_ BK218.out 1).trans rfl, (bc_ BK219.out 0).trans rfl, (bc_ BK219.out 1).trans rfl⟩ (fun hHeld => ?_); refine with_tabW hawserlaw16_ConfigFollows.tab2 hawserlaw16_ConfigFollows.bits2 (fun HT_ HW_ => ?_)
          generalize w34.drew = w35 at HO213 HO217 BK208 BK209 BK218 BK219 HB hHeld ⊢
          refine take_ (i := 0) (N := some 14) (v := ?_) (a' := ?_) #[true, false, false, false, false, false, false, false] rfl rfl (take_ofW HT_.out HW_.out (by kernel_rfl)) (fun _ _ _ h => h) (Or.inl ⟨by rfl, ?_⟩) hHeld ?_ ?_
          rotate_left
          · rintro w' ⟨s0, s1, s2, s3⟩
            go_simp
            with_reducible rfl
          rotate_left
          · simp only [Act.put, l1_, l2_, l3_, i64_w, i32_w]
            rfl
          refine take_ (i := 1) (N := some 15) (v := ?_) (a' := ?_) #[true, true, false, false, false, false, false, false] rfl rfl (take_ofW HT_.out HW_.out (by kernel_rfl)) (fun _ _ _ h => h) (Or.inl ⟨by rfl, ?_⟩) hHeld ?_ ?_
          rotate_left
          · rintro w' ⟨s0, s1, s2, s3⟩
            go_simp
            with_reducible rfl
          rotate_left
          · simp only [Act.put, l1_, l2_, l3_, i64_w, i32_w]
            rfl
          refine take_ (i := 3) (N := some 17) (v := ?_) (a' := ?_) #[true, true, false, true, false, false, false, false] rfl rfl (take_ofW HT_.out HW_.out (by kernel_rfl)) (fun _ _ _ h => h) (Or.inl ⟨by rfl, ?_⟩) hHeld ?_ ?_
          rotate_left
          · rintro w' ⟨s0, s1, s2, s3⟩
            go_simp
            with_reducible rfl
          rotate_left
          · simp only [Act.put, l1_, l2_, l3_, i64_w, i32_w]
            rfl
          refine take_ (i := 4) (N := some 18) (v := ?_) (a' := ?_) #[true, true, false, true, true, false, false, false] rfl rfl (take_ofW HT_.out HW_.out (by kernel_rfl)) (fun _ _ _ h => h) (Or.inl ⟨by rfl, ?_⟩) hHeld ?_ ?_
          rotate_left
          · rintro w' ⟨s0, s1, s2, s3⟩
            go_simp
            with_reducible rfl
          rotate_left
          · simp only [Act.put, l1_, l2_, l3_, i64_w, i32_w]
            rfl
          refine one_ (i := 2) (N := some 16) #[true, true, true, true, true, false, false, false] rfl rfl (one_of HT_.out (by kernel_rfl)) (by decide) (fun K hK => ?_)
          refine goes_ Try.func27 (by kernel_rfl) rfl #[.agg #[.int .i64 t210, .slice Ao29 t211.length co29], .agg #[.int .i64 t214, .slice Ao32 t215.length co32]] (by rfl) rfl rfl (by (try simp only [List.map_toArray, List.map_cons, List.map_nil]); first | done | rfl | (simp only [List.length_drop, List.length_take]; rfl)) ?_
          with_reducible refine (config_Follows.calls k t210 (fun k_ => (k_ ≠ gb208 ∧ (k_ ≠ gb209 ∧ (k_ ≠ gb218 ∧ k_ ≠ gb219)))) _ _ t211 t214 (fun k_ => (k_ ≠ gb208 ∧ (k_ ≠ gb209 ∧ (k_ ≠ gb218 ∧ k_ ≠ gb219)))) _ _ t215 t220 _ ?side1 ?side2 A5.out).mono ?_
          (case side1 => exact Tw.V_to HO213.out)
          (case side2 => exact Tw.V_to HO217.out)
          rintro e w36 ⟨rfl, hb⟩
          refine ⟨_, rfl, ?_⟩
          have n0_ := A_ (Tw.V_below (by (with_reducible repeat (first | apply Tw.V_alloc | apply Tw.V_drewN | apply Tw.V_drew)); exact HO213.out) hb)
          have n1_ := A_ (Tw.V_below (by (with_reducible repeat (first | apply Tw.V_alloc | apply Tw.V_drewN | apply Tw.V_drew)); exact HO217.out) hb)
          have n2_ := A_ (blk_below (g := gb208) (o := .cells #[.int .i64 a0_0, .slice A0_1 l0_1.length c0_1] 32 (0, 0)) (by (with_reducible repeat (first | refine bN_ ?_ _ | refine bD_ ?_ | refine bA_ ?_ _)); exact BK208.out) hb)
          have n3_ := A_ (blk_below (g := gb209) (o := .cells #[.int .i64 a1_0, .slice A1_1 l1_1.length c1_1] 32 (0, 0)) (by (with_reducible repeat (first | refine bN_ ?_ _ | refine bD_ ?_ | refine bA_ ?_ _)); exact BK209.out) hb)
          have n4_ := A_ (blk_below (g := gb218) (o := .cells #[.int .i64 t210, .slice Ao29 t211.length co29] 32 (0, 0)) (by (with_reducible repeat (first | refine bN_ ?_ _ | refine bD_ ?_ | refine bA_ ?_ _)); exact BK218.out) hb)
          have n5_ := A_ (blk_below (g := gb219) (o := .cells #[.int .i64 t214, .slice Ao32 t215.length co32] 32 (0, 0)) (by (with_reducible repeat (first | refine bN_ ?_ _ | refine bD_ ?_ | refine bA_ ?_ _)); exact BK219.out) hb)
          have n6_ := A_ (below_step (by repeat (first | (with_reducible first | exact HB.out | apply pA_ | apply pN_ | apply pD_ | refine bs_ ?_ GE208.out | refine bs_ ?_ GE209.out | refine bs_ ?_ GE218.out | refine bs_ ?_ GE219.out) | exact HB.out)) hb)
          clear HO213
          clear HO217
          clear BK208
          clear BK209
          clear BK218
          clear BK219
          clear HB
          have HO213 := n0_
          have HO217 := n1_
          have BK208 := n2_
          have BK209 := n3_
          have BK218 := n4_
          have BK219 := n5_
          have HB := n6_
          clear n0_ n1_ n2_ n3_ n4_ n5_ n6_
          (try clear hb)
          (try clear hb2)
          (try clear hk)
          (try clear hi)
          refine hK.out _ _ ⟨(bc_ BK218.out 0).trans rfl, (bc_ BK218.out 1).trans rfl, (bc_ BK219.out 0).trans rfl, (bc_ BK219.out 1).trans rfl⟩ (fun hHeld => ?_)
          clear hK K
          refine norm_ (a' := ?_) ?_ ?_
          rotate_left
          · show Act.put _ (some 16) _ = _
            simp only [Act.put, l1_, l2_, l3_, i64_w, i32_w]
            rfl
          refine one_ (i := 5) (N := some 19) #[true, true, true, true, true, true, false, false] rfl rfl (one_of HT_.out (by kernel_rfl)) (by decide) (fun K hK => ?_)
          refine goes_ Try.func28 (by kernel_rfl) rfl #[.agg #[.int .i64 t210, .slice Ao29 t211.length co29], .agg #[.int .i64 t214, .slice Ao32 t215.length co32]] (by rfl) rfl rfl (by (try simp only [List.map_toArray, List.map_cons, List.map_nil]); first | done | rfl | (simp only [List.length_drop, List.length_take]; rfl)) ?_
          with_reducible refine (config_Alike.calls k t210 _ _ t211 t214 _ _ t215 t221 _ ?side1 ?side2 ?side3 ?side4 A6.out).mono ?_
          (case side1 => repeat (first | exact (Tw.V_reads' HO213.out).2.2 | (with_reducible refine Kd.C_alloc ?_ _) | (with_reducible refine Kd.C_drewN ?_ _) | (with_reducible refine Kd.C_drew ?_)))
          (case side2 => exact (Tw.V_reads' HO213.out).2.1)
          (case side3 => repeat (first | exact (Tw.V_reads' HO217.out).2.2 | (with_reducible refine Kd.C_alloc ?_ _) | (with_reducible refine Kd.C_drewN ?_ _) | (with_reducible refine Kd.C_drew ?_)))
          (case side4 => exact (Tw.V_reads' HO217.out).2.1)
          rintro e w37 ⟨rfl, hb⟩
          refine ⟨_, rfl, ?_⟩
          have n0_ := A_ (Tw.V_below (by (with_reducible repeat (first | apply Tw.V_alloc | apply Tw.V_drewN | apply Tw.V_drew)); exact HO213.out) hb)
          have n1_ := A_ (Tw.V_below (by (with_reducible repeat (first | apply Tw.V_alloc | apply Tw.V_drewN | apply Tw.V_drew)); exact HO217.out) hb)
          have n2_ := A_ (blk_below (g := gb208) (o := .cells #[.int .i64 a0_0, .slice A0_1 l0_1.length c0_1] 32 (0, 0)) (by (with_reducible repeat (first | refine bN_ ?_ _ | refine bD_ ?_ | refine bA_ ?_ _)); exact BK208.out) hb)
          have n3_ := A_ (blk_below (g := gb209) (o := .cells #[.int .i64 a1_0, .slice A1_1 l1_1.length c1_1] 32 (0, 0)) (by (with_reducible repeat (first | refine bN_ ?_ _ | refine bD_ ?_ | refine bA_ ?_ _)); exact BK209.out) hb)
          have n4_ := A_ (blk_below (g := gb218) (o := .cells #[.int .i64 t210, .slice Ao29 t211.length co29] 32 (0, 0)) (by (with_reducible repeat (first | refine bN_ ?_ _ | refine bD_ ?_ | refine bA_ ?_ _)); exact BK218.out) hb)
          have n5_ := A_ (blk_below (g := gb219) (o := .cells #[.int .i64 t214, .slice Ao32 t215.length co32] 32 (0, 0)) (by (with_reducible repeat (first | refine bN_ ?_ _ | refine bD_ ?_ | refine bA_ ?_ _)); exact BK219.out) hb)
          have n6_ := A_ (below_step (by repeat (first | (with_reducible first | exact HB.out | apply pA_ | apply pN_ | apply pD_ | refine bs_ ?_ GE208.out | refine bs_ ?_ GE209.out | refine bs_ ?_ GE218.out | refine bs_ ?_ GE219.out) | exact HB.out)) hb)
          clear HO213
          clear HO217
          clear BK208
          clear BK209
          clear BK218
          clear BK219
          clear HB
          have HO213 := n0_
          have HO217 := n1_
          have BK208 := n2_
          have BK209 := n3_
          have BK218 := n4_
          have BK219 := n5_
          have HB := n6_
          clear n0_ n1_ n2_ n3_ n4_ n5_ n6_
          (try clear hb)
          (try clear hb2)
          (try clear hk)
          (try clear hi)
          refine hK.out _ _ ⟨(bc_ BK218.out 0).trans rfl, (bc_ BK218.out 1).trans rfl, (bc_ BK219.out 0).trans rfl, (bc_ BK219.out 1).trans rfl⟩ (fun hHeld => ?_)
          clear hK K
          refine norm_ (a' := ?_) ?_ ?_
          rotate_left
          · show Act.put _ (some 19) _ = _
            simp only [Act.put, l1_, l2_, l3_, i64_w, i32_w]
            rfl
          refine pure_ (i := 6) (N := some 7) (v := ?_) (a' := ?_) #[true, true, true, true, true, true, true, false] rfl rfl (any_of HT_.out (by kernel_rfl)) (fun _ _ _ h => h) (Or.inl ⟨by rfl, ?_⟩) ?_ ?_
          rotate_left
          · intro w'
            go_simp
            with_reducible rfl
          rotate_left
          · simp only [Act.put, l1_, l2_, l3_, i64_w, i32_w]
            rfl
          refine pure_ (i := 7) (N := some 8) (v := ?_) (a' := ?_) #[true, true, true, true, true, true, true, true] rfl rfl (any_of HT_.out (by kernel_rfl)) (fun _ _ _ h => h) (Or.inl ⟨by rfl, ?_⟩) ?_ ?_
          rotate_left
          · intro w'
            go_simp
            with_reducible rfl
          rotate_left
          · simp only [Act.put, l1_, l2_, l3_, i64_w, i32_w]
            rfl
          refine done_ (done_of HT_.out (by kernel_rfl)) ?_
          try go_wp2_with (first | ((with_reducible refine gate_dst (N := 20) rfl ?_); refine Kd.R_lit (Kd.int .i64) _ 3 ?hg (N := 20) ?hd (xs := ([5] : List Int)) (inner := [.int .i64 5]) (ok := fun _ => True) (okp := fun _ => True) ?hr ?hp (fun _ hk => hk) trivial (Below.refl _ _) (Nat.le_refl _) (by simp) ?_; (case hd => rfl); (case hg => rfl); (case hr => first | (go_simp; done) | (go_simp; rfl)); (case hp => exact (Reps.one (show Kd.M (Kd.int .i64) _ _ _ 5 [.int .i64 5] from rfl) (Reps.none _ _))); intro v223 w38 ho39 hb hg_ hnew_; clear hg_ hnew_; (first | rw [← Ny222.out] at ho39 | (simp only [Int.reduceToNat] at ho39; rw [← Ny222.out] at ho39)); have n0_ := A_ (Tw.V_elder' (by (with_reducible repeat (first | apply Tw.V_alloc | apply Tw.V_drewN | apply Tw.V_drew)); exact HO213.out) (Kd.R_base ho39) hb); have n1_ := A_ (Tw.V_elder' (by (with_reducible repeat (first | apply Tw.V_alloc | apply Tw.V_drewN | apply Tw.V_drew)); exact HO217.out) (Kd.R_base ho39) hb); have n2_ := A_ (Kd.R_lower ho39 (below_size (by repeat (first | (with_reducible first | exact HB.out | apply pA_ | apply pN_ | apply pD_ | refine bs_ ?_ GE208.out | refine bs_ ?_ GE209.out | refine bs_ ?_ GE218.out | refine bs_ ?_ GE219.out) | exact HB.out)))); have n3_ := A_ (blk_below (g := gb208) (o := .cells #[.int .i64 a0_0, .slice A0_1 l0_1.length c0_1] 32 (0, 0)) (by (with_reducible repeat (first | refine bN_ ?_ _ | refine bD_ ?_ | refine bA_ ?_ _)); exact BK208.out) hb); have n4_ := A_ (blk_below (g := gb209) (o := .cells #[.int .i64 a1_0, .slice A1_1 l1_1.length c1_1] 32 (0, 0)) (by (with_reducible repeat (first | refine bN_ ?_ _ | refine bD_ ?_ | refine bA_ ?_ _)); exact BK209.out) hb); have n5_ := A_ (blk_below (g := gb218) (o := .cells #[.int .i64 t210, .slice Ao29 t211.length co29] 32 (0, 0)) (by (with_reducible repeat (first | refine bN_ ?_ _ | refine bD_ ?_ | refine bA_ ?_ _)); exact BK218.out) hb); have n6_ := A_ (blk_below (g := gb219) (o := .cells #[.int .i64 t214, .slice Ao32 t215.length co32] 32 (0, 0)) (by (with_reducible repeat (first | refine bN_ ?_ _ | refine bD_ ?_ | refine bA_ ?_ _)); exact BK219.out) hb); have n7_ := A_ (below_step (by repeat (first | (with_reducible first | exact HB.out | apply pA_ | apply pN_ | apply pD_ | refine bs_ ?_ GE208.out | refine bs_ ?_ GE209.out | refine bs_ ?_ GE218.out | refine bs_ ?_ GE219.out) | exact HB.out)) hb); clear HO213; clear HO217; clear BK208; clear BK209; clear BK218; clear BK219; clear HB; have HO213 := n0_; have HO217 := n1_; have HO224 := n2_; have BK208 := n3_; have BK209 := n4_; have BK218 := n5_; have BK219 := n6_; have HB := n7_; clear n0_ n1_ n2_ n3_ n4_ n5_ n6_ n7_; clear hb ho39; obtain ⟨Ao40, co40, eo40⟩ := Kd.R_slice HO224.out; subst eo40) | ((with_reducible refine gate_dst (N := 22) rfl ?_); refine Kd.R_lit (Kd.int .i64) _ 3 ?hg (N := 22) ?hd (xs := ([5, 6] : List Int)) (inner := [.int .i64 5, .int .i64 6]) (ok := fun _ => True) (okp := fun _ => True) ?hr ?hp (fun _ hk => hk) trivial (Below.refl _ _) (Nat.le_refl _) (by simp) ?_; (case hd => rfl); (case hg => rfl); (case hr => first | (go_simp; done) | (go_simp; rfl)); (case hp => exact (Reps.one (show Kd.M (Kd.int .i64) _ _ _ 5 [.int .i64 5] from rfl) (Reps.one (show Kd.M (Kd.int .i64) _ _ _ 6 [.int .i64 6] from rfl) (Reps.none _ _)))); intro v226 w41 ho42 hb hg_ hnew_; clear hg_ hnew_; (first | rw [← Ny225.out] at ho42 | (simp only [Int.reduceToNat] at ho42; rw [← Ny225.out] at ho42)); have n0_ := A_ (Tw.V_elder' (by (with_reducible repeat (first | apply Tw.V_alloc | apply Tw.V_drewN | apply Tw.V_drew)); exact HO213.out) (Kd.R_base ho42) hb); have n1_ := A_ (Tw.V_elder' (by (with_reducible repeat (first | apply Tw.V_alloc | apply Tw.V_drewN | apply Tw.V_drew)); exact HO217.out) (Kd.R_base ho42) hb); have n2_ := A_ (Kd.R_elder' (by (with_reducible repeat (first | apply Kd.R_alloc | apply Kd.R_drewN | apply Kd.R_drew)); exact HO224.out) (Kd.R_base ho42) hb); have n3_ := A_ (Kd.R_lower (Kd.R_new' ho42 (Kd.R_lt (by (with_reducible repeat (first | apply Kd.R_alloc | apply Kd.R_drewN | apply Kd.R_drew)); exact HO224.out))) (below_size (by repeat (first | (with_reducible first | exact HB.out | apply pA_ | apply pN_ | apply pD_ | refine bs_ ?_ GE208.out | refine bs_ ?_ GE209.out | refine bs_ ?_ GE218.out | refine bs_ ?_ GE219.out) | exact HB.out)))); have n4_ := A_ (blk_below (g := gb208) (o := .cells #[.int .i64 a0_0, .slice A0_1 l0_1.length c0_1] 32 (0, 0)) (by (with_reducible repeat (first | refine bN_ ?_ _ | refine bD_ ?_ | refine bA_ ?_ _)); exact BK208.out) hb); have n5_ := A_ (blk_below (g := gb209) (o := .cells #[.int .i64 a1_0, .slice A1_1 l1_1.length c1_1] 32 (0, 0)) (by (with_reducible repeat (first | refine bN_ ?_ _ | refine bD_ ?_ | refine bA_ ?_ _)); exact BK209.out) hb); have n6_ := A_ (blk_below (g := gb218) (o := .cells #[.int .i64 t210, .slice Ao29 t211.length co29] 32 (0, 0)) (by (with_reducible repeat (first | refine bN_ ?_ _ | refine bD_ ?_ | refine bA_ ?_ _)); exact BK218.out) hb); have n7_ := A_ (blk_below (g := gb219) (o := .cells #[.int .i64 t214, .slice Ao32 t215.length co32] 32 (0, 0)) (by (with_reducible repeat (first | refine bN_ ?_ _ | refine bD_ ?_ | refine bA_ ?_ _)); exact BK219.out) hb); have n8_ := A_ (below_step (by repeat (first | (with_reducible first | exact HB.out | apply pA_ | apply pN_ | apply pD_ | refine bs_ ?_ GE208.out | refine bs_ ?_ GE209.out | refine bs_ ?_ GE218.out | refine bs_ ?_ GE219.out) | exact HB.out)) hb); clear HO213; clear HO217; clear HO224; clear BK208; clear BK209; clear BK218; clear BK219; clear HB; have HO213 := n0_; have HO217 := n1_; have HO224 := n2_; have HO227 := n3_; have BK208 := n4_; have BK209 := n5_; have BK218 := n6_; have BK219 := n7_; have HB := n8_; clear n0_ n1_ n2_ n3_ n4_ n5_ n6_ n7_ n8_; clear hb ho42; obtain ⟨Ao43, co43, eo43⟩ := Kd.R_slice HO227.out; subst eo43) | ((with_reducible refine gate_callee (f := 27) rfl ?_); refine goesL_ (some 24) rfl rfl Try.func27 (by kernel_rfl) rfl #[.agg #[.int .i64 1, .slice Ao40 y222.length co40], .agg #[.int .i64 2, .slice Ao43 y225.length co43]] rfl (by (try simp only [List.map_toArray, List.map_cons, List.map_nil]); first | done | rfl | (simp only [List.length_drop, List.length_take]; rfl)) ?_; (with_reducible refine (config_Follows.calls k 1 (fun k_ => some k_ = (.slice Ao40 y222.length co40 : Value).ownBlock) _ _ y222 2 (fun k_ => some k_ = (.slice Ao43 y225.length co43 : Value).ownBlock) _ _ y225 t228 _ ?side1 ?side2 A7.out).mono ?_); (case side1 => exact Kd.R_V (Kd.R_tight rfl (Kd.R_types (Kd.R_types (Kd.R_types (Kd.R_types (HO224.out) BK208.out (by decide)) BK209.out (by decide)) BK218.out (by decide)) BK219.out (by decide)))); (case side2 => exact Kd.R_V (Kd.R_tight rfl (Kd.R_types (Kd.R_types (Kd.R_types (Kd.R_types (HO227.out) BK208.out (by decide)) BK209.out (by decide)) BK218.out (by decide)) BK219.out (by decide)))); rintro e w44 ⟨rfl, hb⟩; refine ⟨_, rfl, ?_⟩; have n0_ := A_ (Tw.V_below (by (with_reducible repeat (first | apply Tw.V_alloc | apply Tw.V_drewN | apply Tw.V_drew)); exact HO213.out) hb); have n1_ := A_ (Tw.V_below (by (with_reducible repeat (first | apply Tw.V_alloc | apply Tw.V_drewN | apply Tw.V_drew)); exact HO217.out) hb); have n2_ := A_ (Kd.R_below (by (with_reducible repeat (first | apply Kd.R_alloc | apply Kd.R_drewN | apply Kd.R_drew)); exact HO224.out) hb); have n3_ := A_ (Kd.R_below (by (with_reducible repeat (first | apply Kd.R_alloc | apply Kd.R_drewN | apply Kd.R_drew)); exact HO227.out) hb); have n4_ := A_ (blk_below (g := gb208) (o := .cells #[.int .i64 a0_0, .slice A0_1 l0_1.length c0_1] 32 (0, 0)) (by (with_reducible repeat (first | refine bN_ ?_ _ | refine bD_ ?_ | refine bA_ ?_ _)); exact BK208.out) hb); have n5_ := A_ (blk_below (g := gb209) (o := .cells #[.int .i64 a1_0, .slice A1_1 l1_1.length c1_1] 32 (0, 0)) (by (with_reducible repeat (first | refine bN_ ?_ _ | refine bD_ ?_ | refine bA_ ?_ _)); exact BK209.out) hb); have n6_ := A_ (blk_below (g := gb218) (o := .cells #[.int .i64 t210, .slice Ao29 t211.length co29] 32 (0, 0)) (by (with_reducible repeat (first | refine bN_ ?_ _ | refine bD_ ?_ | refine bA_ ?_ _)); exact BK218.out) hb); have n7_ := A_ (blk_below (g := gb219) (o := .cells #[.int .i64 t214, .slice Ao32 t215.length co32] 32 (0, 0)) (by (with_reducible repeat (first | refine bN_ ?_ _ | refine bD_ ?_ | refine bA_ ?_ _)); exact BK219.out) hb); have n8_ := A_ (below_step (by repeat (first | (with_reducible first | exact HB.out | apply pA_ | apply pN_ | apply pD_ | refine bs_ ?_ GE208.out | refine bs_ ?_ GE209.out | refine bs_ ?_ GE218.out | refine bs_ ?_ GE219.out) | exact HB.out)) hb); clear HO213; clear HO217; clear HO224; clear HO227; clear BK208; clear BK209; clear BK218; clear BK219; clear HB; have HO213 := n0_; have HO217 := n1_; have HO224 := n2_; have HO227 := n3_; have BK208 := n4_; have BK209 := n5_; have BK218 := n6_; have BK219 := n7_; have HB := n8_; clear n0_ n1_ n2_ n3_ n4_ n5_ n6_ n7_ n8_; (try clear hb); (try clear hb2); (try clear hk); (try clear hi)))
          have n0_ := A_ (Tw.V_drew HO213.out)
          have n1_ := A_ (Tw.V_drew HO217.out)
          have n2_ := A_ (Kd.R_drew HO224.out)
          have n3_ := A_ (Kd.R_drew HO227.out)
          have n4_ := A_ (bD_ BK208.out)
          have n5_ := A_ (bD_ BK209.out)
          have n6_ := A_ (bD_ BK218.out)
          have n7_ := A_ (bD_ BK219.out)
          have n8_ := A_ (pD_ HB.out)
          clear HO213
          clear HO217
          clear HO224
          clear HO227
          clear BK208
          clear BK209
          clear BK218
          clear BK219
          clear HB
          have HO213 := n0_
          have HO217 := n1_
          have HO224 := n2_
          have HO227 := n3_
          have BK208 := n4_
          have BK209 := n5_
          have BK218 := n6_
          have BK219 := n7_
          have HB := n8_
          clear n0_ n1_ n2_ n3_ n4_ n5_ n6_ n7_ n8_
          refine start_ (n := 30) (S := fun w' => w'.cell? ⟨gb208, 0, none⟩ = some (.int .i64 a0_0) ∧ w'.cell? ⟨gb208, 1, none⟩ = some (.slice A0_1 l0_1.length c0_1) ∧ w'.cell? ⟨gb209, 0, none⟩ = some (.int .i64 a1_0) ∧ w'.cell? ⟨gb209, 1, none⟩ = some (.slice A1_1 l1_1.length c1_1) ∧ w'.cell? ⟨gb218, 0, none⟩ = some (.int .i64 t210) ∧ w'.cell? ⟨gb218, 1, none⟩ = some (.slice Ao29 t211.length co29) ∧ w'.cell? ⟨gb219, 0, none⟩ = some (.int .i64 t214) ∧ w'.cell? ⟨gb219, 1, none⟩ = some (.slice Ao32 t215.length co32)) (ds := []) #[false, false, false, false, false, false, false, false, false, false, false, false, false, false, false, false, false, false, false, false, false, false, false, false, false, false, false, false, false, false] (by kernel_rfl) rfl rfl ⟨(bc_ BK208.out 0).trans rfl, (bc_ BK208.out 1).trans rfl, (bc_ BK209.out 0).trans rfl, (bc_ BK209.out 1).trans rfl, (bc_ BK218.out 0).trans rfl, (bc_ BK218.out 1).trans rfl, (bc_ BK219.out 0).trans rfl, (bc_ BK219.out 1).trans rfl⟩ (fun hHeld => ?_); refine with_tabW hawserlaw16_ConfigFollows.tab4 hawserlaw16_ConfigFollows.bits4 (fun HT_ HW_ => ?_)
          generalize w44.drew = w45 at HO213 HO217 HO224 HO227 BK208 BK209 BK218 BK219 HB hHeld ⊢
          refine pure_ (i := 0) (N := some 25) (v := ?_) (a' := ?_) #[true, false, false, false, false, false, false, false, false, false, false, false, false, false, false, false, false, false, false, false, false, false, false, false, false, false, false, false, false, false] rfl rfl (any_of HT_.out (by kernel_rfl)) (fun _ _ _ h => h) (Or.inl ⟨by rfl, ?_⟩) ?_ ?_
          rotate_left
          · intro w'
            go_simp
            with_reducible rfl
          rotate_left
          · simp only [Act.put, l1_, l2_, l3_, i64_w, i32_w]
            rfl
          refine take_ (i := 1) (N := some 26) (v := ?_) (a' := ?_) #[true, true, false, false, false, false, false, false, false, false, false, false, false, false, false, false, false, false, false, false, false, false, false, false, false, false, false, false, false, false] rfl rfl (take_ofW HT_.out HW_.out (by kernel_rfl)) (fun _ _ _ h => h) (Or.inl ⟨by rfl, ?_⟩) hHeld ?_ ?_
          rotate_left
          · rintro w' ⟨s0, s1, s2, s3, s4, s5, s6, s7⟩
            go_simp
            with_reducible rfl
          rotate_left
          · simp only [Act.put, l1_, l2_, l3_, i64_w, i32_w]
            rfl
          refine take_ (i := 3) (N := some 28) (v := ?_) (a' := ?_) #[true, true, false, true, false, false, false, false, false, false, false, false, false, false, false, false, false, false, false, false, false, false, false, false, false, false, false, false, false, false] rfl rfl (take_ofW HT_.out HW_.out (by kernel_rfl)) (fun _ _ _ h => h) (Or.inl ⟨by rfl, ?_⟩) hHeld ?_ ?_
          rotate_left
          · rintro w' ⟨s0, s1, s2, s3, s4, s5, s6, s7⟩
            go_simp
            with_reducible rfl
          rotate_left
          · simp only [Act.put, l1_, l2_, l3_, i64_w, i32_w]
            rfl
          refine one_ (i := 2) (N := some 27) #[true, true, true, true, false, false, false, false, false, false, false, false, false, false, false, false, false, false, false, false, false, false, false, false, false, false, false, false, false, false] rfl rfl (one_of HT_.out (by kernel_rfl)) (by decide) (fun K hK => ?_)
          refine goes_ Try.func22 (by kernel_rfl) rfl #[.agg #[.int .i64 a0_0, .slice A0_1 l0_1.length c0_1]] (by rfl) rfl rfl (by (try simp only [List.map_toArray, List.map_cons, List.map_nil]); first | done | rfl | (simp only [List.length_drop, List.length_take]; rfl)) ?_
          with_reducible refine (hawserlaw16_plain.calls a0_0 (fun k_ => k_ < w.heap.size) _ _ l0_1 t229 t230 _ ?side1 A8.out).mono ?_
          (case side1 => exact Kd.V_mk HC0_1.out (Kd.F_below (Kd.C_F (Kd.heap_int .i64) HR0_1.out) (by repeat (first | (with_reducible first | exact HB.out | apply pA_ | apply pN_ | apply pD_ | refine bs_ ?_ GE208.out | refine bs_ ?_ GE209.out | refine bs_ ?_ GE218.out | refine bs_ ?_ GE219.out) | exact HB.out))))
          rintro e w46 ⟨v231, rfl, ho0, hb⟩
          refine ⟨_, rfl, ?_⟩
          have n0_ := A_ (Tw.V_below (by (with_reducible repeat (first | apply Tw.V_alloc | apply Tw.V_drewN | apply Tw.V_drew)); exact HO213.out) hb)
          have n1_ := A_ (Tw.V_below (by (with_reducible repeat (first | apply Tw.V_alloc | apply Tw.V_drewN | apply Tw.V_drew)); exact HO217.out) hb)
          have n2_ := A_ (Kd.R_below (by (with_reducible repeat (first | apply Kd.R_alloc | apply Kd.R_drewN | apply Kd.R_drew)); exact HO224.out) hb)
          have n3_ := A_ (Kd.R_below (by (with_reducible repeat (first | apply Kd.R_alloc | apply Kd.R_drewN | apply Kd.R_drew)); exact HO227.out) hb)
          have n4_ := A_ (Kd.V_lower (Kd.V_mono (ok' := fun k_ => some k_ ≠ (.slice Ao40 y222.length co40 : Value).ownBlock ∧ some k_ ≠ (.slice Ao43 y225.length co43 : Value).ownBlock ∧ k_ ≠ gb208 ∧ k_ ≠ gb209 ∧ k_ ≠ gb218 ∧ k_ ≠ gb219) ho0 (fun k_ hk_ => ⟨Or.elim hk_ (fun hs_ => fun e_ => Nat.not_le.2 hs_ (Kd.R_base HO224.out k_ e_.symm)) (fun hn_ => (Kd.fresh' (Kd.R_lt (by (with_reducible repeat (first | apply Kd.R_alloc | apply Kd.R_drewN | apply Kd.R_drew)); exact HO224.out)) k_ hn_)), Or.elim hk_ (fun hs_ => fun e_ => Nat.not_le.2 hs_ (Kd.R_base HO227.out k_ e_.symm)) (fun hn_ => (Kd.fresh' (Kd.R_lt (by (with_reducible repeat (first | apply Kd.R_alloc | apply Kd.R_drewN | apply Kd.R_drew)); exact HO227.out)) k_ hn_)), Or.elim hk_ (fun hs_ => fun e_ => Nat.not_le.2 hs_ (by rw [e_]; exact GW208.out)) (fun hn_ => (Kd.freshB (g := gb208) (o := .cells #[.int .i64 a0_0, .slice A0_1 l0_1.length c0_1] 32 (0, 0)) (by (with_reducible repeat (first | refine bN_ ?_ _ | refine bD_ ?_ | refine bA_ ?_ _)); exact BK208.out) k_ hn_)), Or.elim hk_ (fun hs_ => fun e_ => Nat.not_le.2 hs_ (by rw [e_]; exact GW209.out)) (fun hn_ => (Kd.freshB (g := gb209) (o := .cells #[.int .i64 a1_0, .slice A1_1 l1_1.length c1_1] 32 (0, 0)) (by (with_reducible repeat (first | refine bN_ ?_ _ | refine bD_ ?_ | refine bA_ ?_ _)); exact BK209.out) k_ hn_)), Or.elim hk_ (fun hs_ => fun e_ => Nat.not_le.2 hs_ (by rw [e_]; exact GW218.out)) (fun hn_ => (Kd.freshB (g := gb218) (o := .cells #[.int .i64 t210, .slice Ao29 t211.length co29] 32 (0, 0)) (by (with_reducible repeat (first | refine bN_ ?_ _ | refine bD_ ?_ | refine bA_ ?_ _)); exact BK218.out) k_ hn_)), Or.elim hk_ (fun hs_ => fun e_ => Nat.not_le.2 hs_ (by rw [e_]; exact GW219.out)) (fun hn_ => (Kd.freshB (g := gb219) (o := .cells #[.int .i64 t214, .slice Ao32 t215.length co32] 32 (0, 0)) (by (with_reducible repeat (first | refine bN_ ?_ _ | refine bD_ ?_ | refine bA_ ?_ _)); exact BK219.out) k_ hn_))⟩)) (below_size (by repeat (first | (with_reducible first | exact HB.out | apply pA_ | apply pN_ | apply pD_ | refine bs_ ?_ GE208.out | refine bs_ ?_ GE209.out | refine bs_ ?_ GE218.out | refine bs_ ?_ GE219.out) | exact HB.out))))
          have n5_ := A_ (blk_below (g := gb208) (o := .cells #[.int .i64 a0_0, .slice A0_1 l0_1.length c0_1] 32 (0, 0)) (by (with_reducible repeat (first | refine bN_ ?_ _ | refine bD_ ?_ | refine bA_ ?_ _)); exact BK208.out) hb)
          have n6_ := A_ (blk_below (g := gb209) (o := .cells #[.int .i64 a1_0, .slice A1_1 l1_1.length c1_1] 32 (0, 0)) (by (with_reducible repeat (first | refine bN_ ?_ _ | refine bD_ ?_ | refine bA_ ?_ _)); exact BK209.out) hb)
          have n7_ := A_ (blk_below (g := gb218) (o := .cells #[.int .i64 t210, .slice Ao29 t211.length co29] 32 (0, 0)) (by (with_reducible repeat (first | refine bN_ ?_ _ | refine bD_ ?_ | refine bA_ ?_ _)); exact BK218.out) hb)
          have n8_ := A_ (blk_below (g := gb219) (o := .cells #[.int .i64 t214, .slice Ao32 t215.length co32] 32 (0, 0)) (by (with_reducible repeat (first | refine bN_ ?_ _ | refine bD_ ?_ | refine bA_ ?_ _)); exact BK219.out) hb)
          have n9_ := A_ (below_step (by repeat (first | (with_reducible first | exact HB.out | apply pA_ | apply pN_ | apply pD_ | refine bs_ ?_ GE208.out | refine bs_ ?_ GE209.out | refine bs_ ?_ GE218.out | refine bs_ ?_ GE219.out) | exact HB.out)) hb)
          clear HO213
          clear HO217
          clear HO224
          clear HO227
          clear BK208
          clear BK209
          clear BK218
          clear BK219
          clear HB
          have HO213 := n0_
          have HO217 := n1_
          have HO224 := n2_
          have HO227 := n3_
          have HO232 := n4_
          have BK208 := n5_
          have BK209 := n6_
          have BK218 := n7_
          have BK219 := n8_
          have HB := n9_
          clear n0_ n1_ n2_ n3_ n4_ n5_ n6_ n7_ n8_ n9_
          (try clear hb)
          (try clear hb2)
          (try clear hk)
          (try clear hi)
          (try clear ho0)
          refine hK.out _ _ ⟨(bc_ BK208.out 0).trans rfl, (bc_ BK208.out 1).trans rfl, (bc_ BK209.out 0).trans rfl, (bc_ BK209.out 1).trans rfl, (bc_ BK218.out 0).trans rfl, (bc_ BK218.out 1).trans rfl, (bc_ BK219.out 0).trans rfl, (bc_ BK219.out 1).trans rfl⟩ (fun hHeld => ?_)
          clear hK K
          refine norm_ (a' := ?_) ?_ ?_
          rotate_left
          · show Act.put _ (some 27) _ = _
            simp only [Act.put, l1_, l2_, l3_, i64_w, i32_w]
            rfl
          refine one_ (i := 4) (N := some 29) #[true, true, true, true, true, false, false, false, false, false, false, false, false, false, false, false, false, false, false, false, false, false, false, false, false, false, false, false, false, false] rfl rfl (one_of HT_.out (by kernel_rfl)) (by decide) (fun K hK => ?_)
          refine goes_ Try.func22 (by kernel_rfl) rfl #[.agg #[.int .i64 a1_0, .slice A1_1 l1_1.length c1_1]] (by rfl) rfl rfl (by (try simp only [List.map_toArray, List.map_cons, List.map_nil]); first | done | rfl | (simp only [List.length_drop, List.length_take]; rfl)) ?_
          with_reducible refine (hawserlaw16_plain.calls a1_0 (fun k_ => k_ < w.heap.size) _ _ l1_1 t233 t234 _ ?side1 A9.out).mono ?_
          (case side1 => exact Kd.V_mk HC1_1.out (Kd.F_below (Kd.C_F (Kd.heap_int .i64) HR1_1.out) (by repeat (first | (with_reducible first | exact HB.out | apply pA_ | apply pN_ | apply pD_ | refine bs_ ?_ GE208.out | refine bs_ ?_ GE209.out | refine bs_ ?_ GE218.out | refine bs_ ?_ GE219.out) | exact HB.out))))
          rintro e w47 ⟨v235, rfl, ho0, hb⟩
          refine ⟨_, rfl, ?_⟩
          have n0_ := A_ (Tw.V_below (by (with_reducible repeat (first | apply Tw.V_alloc | apply Tw.V_drewN | apply Tw.V_drew)); exact HO213.out) hb)
          have n1_ := A_ (Tw.V_below (by (with_reducible repeat (first | apply Tw.V_alloc | apply Tw.V_drewN | apply Tw.V_drew)); exact HO217.out) hb)
          have n2_ := A_ (Kd.R_below (by (with_reducible repeat (first | apply Kd.R_alloc | apply Kd.R_drewN | apply Kd.R_drew)); exact HO224.out) hb)
          have n3_ := A_ (Kd.R_below (by (with_reducible repeat (first | apply Kd.R_alloc | apply Kd.R_drewN | apply Kd.R_drew)); exact HO227.out) hb)
          have n4_ := A_ (Kd.V_below (by (with_reducible repeat (first | apply vA_ | apply vN_ | apply vD_)); exact HO232.out) hb)
          have n5_ := A_ (Kd.V_lower (Kd.V_mono (ok' := fun k_ => some k_ ≠ (.slice Ao40 y222.length co40 : Value).ownBlock ∧ some k_ ≠ (.slice Ao43 y225.length co43 : Value).ownBlock ∧ k_ ≠ gb208 ∧ k_ ≠ gb209 ∧ k_ ≠ gb218 ∧ k_ ≠ gb219) ho0 (fun k_ hk_ => ⟨Or.elim hk_ (fun hs_ => fun e_ => Nat.not_le.2 hs_ (Kd.R_base HO224.out k_ e_.symm)) (fun hn_ => (Kd.fresh' (Kd.R_lt (by (with_reducible repeat (first | apply Kd.R_alloc | apply Kd.R_drewN | apply Kd.R_drew)); exact HO224.out)) k_ hn_)), Or.elim hk_ (fun hs_ => fun e_ => Nat.not_le.2 hs_ (Kd.R_base HO227.out k_ e_.symm)) (fun hn_ => (Kd.fresh' (Kd.R_lt (by (with_reducible repeat (first | apply Kd.R_alloc | apply Kd.R_drewN | apply Kd.R_drew)); exact HO227.out)) k_ hn_)), Or.elim hk_ (fun hs_ => fun e_ => Nat.not_le.2 hs_ (by rw [e_]; exact GW208.out)) (fun hn_ => (Kd.freshB (g := gb208) (o := .cells #[.int .i64 a0_0, .slice A0_1 l0_1.length c0_1] 32 (0, 0)) (by (with_reducible repeat (first | refine bN_ ?_ _ | refine bD_ ?_ | refine bA_ ?_ _)); exact BK208.out) k_ hn_)), Or.elim hk_ (fun hs_ => fun e_ => Nat.not_le.2 hs_ (by rw [e_]; exact GW209.out)) (fun hn_ => (Kd.freshB (g := gb209) (o := .cells #[.int .i64 a1_0, .slice A1_1 l1_1.length c1_1] 32 (0, 0)) (by (with_reducible repeat (first | refine bN_ ?_ _ | refine bD_ ?_ | refine bA_ ?_ _)); exact BK209.out) k_ hn_)), Or.elim hk_ (fun hs_ => fun e_ => Nat.not_le.2 hs_ (by rw [e_]; exact GW218.out)) (fun hn_ => (Kd.freshB (g := gb218) (o := .cells #[.int .i64 t210, .slice Ao29 t211.length co29] 32 (0, 0)) (by (with_reducible repeat (first | refine bN_ ?_ _ | refine bD_ ?_ | refine bA_ ?_ _)); exact BK218.out) k_ hn_)), Or.elim hk_ (fun hs_ => fun e_ => Nat.not_le.2 hs_ (by rw [e_]; exact GW219.out)) (fun hn_ => (Kd.freshB (g := gb219) (o := .cells #[.int .i64 t214, .slice Ao32 t215.length co32] 32 (0, 0)) (by (with_reducible repeat (first | refine bN_ ?_ _ | refine bD_ ?_ | refine bA_ ?_ _)); exact BK219.out) k_ hn_))⟩)) (below_size (by repeat (first | (with_reducible first | exact HB.out | apply pA_ | apply pN_ | apply pD_ | refine bs_ ?_ GE208.out | refine bs_ ?_ GE209.out | refine bs_ ?_ GE218.out | refine bs_ ?_ GE219.out) | exact HB.out))))
          have n6_ := A_ (blk_below (g := gb208) (o := .cells #[.int .i64 a0_0, .slice A0_1 l0_1.length c0_1] 32 (0, 0)) (by (with_reducible repeat (first | refine bN_ ?_ _ | refine bD_ ?_ | refine bA_ ?_ _)); exact BK208.out) hb)
          have n7_ := A_ (blk_below (g := gb209) (o := .cells #[.int .i64 a1_0, .slice A1_1 l1_1.length c1_1] 32 (0, 0)) (by (with_reducible repeat (first | refine bN_ ?_ _ | refine bD_ ?_ | refine bA_ ?_ _)); exact BK209.out) hb)
          have n8_ := A_ (blk_below (g := gb218) (o := .cells #[.int .i64 t210, .slice Ao29 t211.length co29] 32 (0, 0)) (by (with_reducible repeat (first | refine bN_ ?_ _ | refine bD_ ?_ | refine bA_ ?_ _)); exact BK218.out) hb)
          have n9_ := A_ (blk_below (g := gb219) (o := .cells #[.int .i64 t214, .slice Ao32 t215.length co32] 32 (0, 0)) (by (with_reducible repeat (first | refine bN_ ?_ _ | refine bD_ ?_ | refine bA_ ?_ _)); exact BK219.out) hb)
          have n10_ := A_ (below_step (by repeat (first | (with_reducible first | exact HB.out | apply pA_ | apply pN_ | apply pD_ | refine bs_ ?_ GE208.out | refine bs_ ?_ GE209.out | refine bs_ ?_ GE218.out | refine bs_ ?_ GE219.out) | exact HB.out)) hb)
          clear HO213
          clear HO217
          clear HO224
          clear HO227
          clear HO232
          clear BK208
          clear BK209
          clear BK218
          clear BK219
          clear HB
          have HO213 := n0_
          have HO217 := n1_
          have HO224 := n2_
          have HO227 := n3_
          have HO232 := n4_
          have HO236 := n5_
          have BK208 := n6_
          have BK209 := n7_
          have BK218 := n8_
          have BK219 := n9_
          have HB := n10_
          clear n0_ n1_ n2_ n3_ n4_ n5_ n6_ n7_ n8_ n9_ n10_
          (try clear hb)
          (try clear hb2)
          (try clear hk)
          (try clear hi)
          (try clear ho0)
          obtain ⟨Ao48, co48, eo48⟩ := Kd.V_slice HO232.out
          (first | subst eo48 | (injection eo48 with f1_ f2_ f3_; have f4_ := f1_.symm; have f5_ := f3_.symm; clear f1_ f2_ f3_; subst f4_; subst f5_))
          obtain ⟨Ao49, co49, eo49⟩ := Kd.V_slice HO236.out
          (first | subst eo49 | (injection eo49 with f1_ f2_ f3_; have f4_ := f1_.symm; have f5_ := f3_.symm; clear f1_ f2_ f3_; subst f4_; subst f5_))
          refine hK.out _ _ ⟨(bc_ BK208.out 0).trans rfl, (bc_ BK208.out 1).trans rfl, (bc_ BK209.out 0).trans rfl, (bc_ BK209.out 1).trans rfl, (bc_ BK218.out 0).trans rfl, (bc_ BK218.out 1).trans rfl, (bc_ BK219.out 0).trans rfl, (bc_ BK219.out 1).trans rfl⟩ (fun hHeld => ?_)
          clear hK K
          refine norm_ (a' := ?_) ?_ ?_
          rotate_left
          · show Act.put _ (some 29) _ = _
            simp only [Act.put, l1_, l2_, l3_, i64_w, i32_w]
            rfl
          refine one_ (i := 5) (N := some 30) #[true, true, true, true, true, true, false, false, false, false, false, false, false, false, false, false, false, false, false, false, false, false, false, false, false, false, false, false, false, false] rfl rfl (one_of HT_.out (by kernel_rfl)) (by decide) (fun K hK => ?_)
          refine goes_ Try.func29 (by kernel_rfl) rfl #[.agg #[.int .i64 t229, .slice Ao48 t230.length co48], .agg #[.int .i64 t233, .slice Ao49 t234.length co49]] (by rfl) rfl rfl (by (try simp only [List.map_toArray, List.map_cons, List.map_nil]); first | done | rfl | (simp only [List.length_drop, List.length_take]; rfl)) ?_
          with_reducible refine (hawserref16_Follows.calls k t229 _ _ t230 t233 _ _ t234 t237 _ ?side1 ?side2 ?side3 ?side4 A10.out).mono ?_
          (case side1 => repeat (first | exact (Kd.V_reads' HO232.out).2.2 | (with_reducible refine Kd.C_alloc ?_ _) | (with_reducible refine Kd.C_drewN ?_ _) | (with_reducible refine Kd.C_drew ?_)))
          (case side2 => exact (Kd.V_reads' HO232.out).2.1)
          (case side3 => repeat (first | exact (Kd.V_reads' HO236.out).2.2 | (with_reducible refine Kd.C_alloc ?_ _) | (with_reducible refine Kd.C_drewN ?_ _) | (with_reducible refine Kd.C_drew ?_)))
          (case side4 => exact (Kd.V_reads' HO236.out).2.1)
          rintro e w50 ⟨rfl, hb⟩
          refine ⟨_, rfl, ?_⟩
          have n0_ := A_ (Tw.V_below (by (with_reducible repeat (first | apply Tw.V_alloc | apply Tw.V_drewN | apply Tw.V_drew)); exact HO213.out) hb)
          have n1_ := A_ (Tw.V_below (by (with_reducible repeat (first | apply Tw.V_alloc | apply Tw.V_drewN | apply Tw.V_drew)); exact HO217.out) hb)
          have n2_ := A_ (Kd.R_below (by (with_reducible repeat (first | apply Kd.R_alloc | apply Kd.R_drewN | apply Kd.R_drew)); exact HO224.out) hb)
          have n3_ := A_ (Kd.R_below (by (with_reducible repeat (first | apply Kd.R_alloc | apply Kd.R_drewN | apply Kd.R_drew)); exact HO227.out) hb)
          have n4_ := A_ (Kd.V_below (by (with_reducible repeat (first | apply vA_ | apply vN_ | apply vD_)); exact HO232.out) hb)
          have n5_ := A_ (Kd.V_below (by (with_reducible repeat (first | apply vA_ | apply vN_ | apply vD_)); exact HO236.out) hb)
          have n6_ := A_ (blk_below (g := gb208) (o := .cells #[.int .i64 a0_0, .slice A0_1 l0_1.length c0_1] 32 (0, 0)) (by (with_reducible repeat (first | refine bN_ ?_ _ | refine bD_ ?_ | refine bA_ ?_ _)); exact BK208.out) hb)
          have n7_ := A_ (blk_below (g := gb209) (o := .cells #[.int .i64 a1_0, .slice A1_1 l1_1.length c1_1] 32 (0, 0)) (by (with_reducible repeat (first | refine bN_ ?_ _ | refine bD_ ?_ | refine bA_ ?_ _)); exact BK209.out) hb)
          have n8_ := A_ (blk_below (g := gb218) (o := .cells #[.int .i64 t210, .slice Ao29 t211.length co29] 32 (0, 0)) (by (with_reducible repeat (first | refine bN_ ?_ _ | refine bD_ ?_ | refine bA_ ?_ _)); exact BK218.out) hb)
          have n9_ := A_ (blk_below (g := gb219) (o := .cells #[.int .i64 t214, .slice Ao32 t215.length co32] 32 (0, 0)) (by (with_reducible repeat (first | refine bN_ ?_ _ | refine bD_ ?_ | refine bA_ ?_ _)); exact BK219.out) hb)
          have n10_ := A_ (below_step (by repeat (first | (with_reducible first | exact HB.out | apply pA_ | apply pN_ | apply pD_ | refine bs_ ?_ GE208.out | refine bs_ ?_ GE209.out | refine bs_ ?_ GE218.out | refine bs_ ?_ GE219.out) | exact HB.out)) hb)
          clear HO213
          clear HO217
          clear HO224
          clear HO227
          clear HO232
          clear HO236
          clear BK208
          clear BK209
          clear BK218
          clear BK219
          clear HB
          have HO213 := n0_
          have HO217 := n1_
          have HO224 := n2_
          have HO227 := n3_
          have HO232 := n4_
          have HO236 := n5_
          have BK208 := n6_
          have BK209 := n7_
          have BK218 := n8_
          have BK219 := n9_
          have HB := n10_
          clear n0_ n1_ n2_ n3_ n4_ n5_ n6_ n7_ n8_ n9_ n10_
          (try clear hb)
          (try clear hb2)
          (try clear hk)
          (try clear hi)
          refine hK.out _ _ ⟨(bc_ BK208.out 0).trans rfl, (bc_ BK208.out 1).trans rfl, (bc_ BK209.out 0).trans rfl, (bc_ BK209.out 1).trans rfl, (bc_ BK218.out 0).trans rfl, (bc_ BK218.out 1).trans rfl, (bc_ BK219.out 0).trans rfl, (bc_ BK219.out 1).trans rfl⟩ (fun hHeld => ?_)
          clear hK K
          refine norm_ (a' := ?_) ?_ ?_
          rotate_left
          · show Act.put _ (some 30) _ = _
            simp only [Act.put, l1_, l2_, l3_, i64_w, i32_w]
            rfl
          refine pure_ (i := 6) (N := some 31) (v := ?_) (a' := ?_) #[true, true, true, true, true, true, true, false, false, false, false, false, false, false, false, false, false, false, false, false, false, false, false, false, false, false, false, false, false, false] rfl rfl (any_of HT_.out (by kernel_rfl)) (fun _ _ _ h => h) (Or.inl ⟨by rfl, ?_⟩) ?_ ?_
          rotate_left
          · intro w'
            go_simp
            with_reducible rfl
          rotate_left
          · simp only [Act.put, l1_, l2_, l3_, i64_w, i32_w]
            rfl
          refine pure_ (i := 7) (N := some 32) (v := ?_) (a' := ?_) #[true, true, true, true, true, true, true, true, false, false, false, false, false, false, false, false, false, false, false, false, false, false, false, false, false, false, false, false, false, false] rfl rfl (any_of HT_.out (by kernel_rfl)) (fun _ _ _ h => h) (Or.inl ⟨by rfl, ?_⟩) ?_ ?_
          rotate_left
          · intro w'
            go_simp
            with_reducible rfl
          rotate_left
          · simp only [Act.put, l1_, l2_, l3_, i64_w, i32_w]
            rfl
          refine pure_ (i := 8) (N := some 33) (v := ?_) (a' := ?_) #[true, true, true, true, true, true, true, true, true, false, false, false, false, false, false, false, false, false, false, false, false, false, false, false, false, false, false, false, false, false] rfl rfl (any_of HT_.out (by kernel_rfl)) (fun _ _ _ h => h) (Or.inl ⟨by rfl, ?_⟩) ?_ ?_
          rotate_left
          · intro w'
            go_simp
            with_reducible rfl
          rotate_left
          · simp only [Act.put, l1_, l2_, l3_, i64_w, i32_w]
            rfl
          refine take_ (i := 9) (N := some 34) (v := ?_) (a' := ?_) #[true, true, true, true, true, true, true, true, true, true, false, false, false, false, false, false, false, false, false, false, false, false, false, false, false, false, false, false, false, false] rfl rfl (take_ofW HT_.out HW_.out (by kernel_rfl)) (fun _ _ _ h => h) (Or.inl ⟨by rfl, ?_⟩) hHeld ?_ ?_
          rotate_left
          · rintro w' ⟨s0, s1, s2, s3, s4, s5, s6, s7⟩
            go_simp
            with_reducible rfl
          rotate_left
          · simp only [Act.put, l1_, l2_, l3_, i64_w, i32_w]
            rfl
          refine take_ (i := 11) (N := some 36) (v := ?_) (a' := ?_) #[true, true, true, true, true, true, true, true, true, true, false, true, false, false, false, false, false, false, false, false, false, false, false, false, false, false, false, false, false, false] rfl rfl (take_ofW HT_.out HW_.out (by kernel_rfl)) (fun _ _ _ h => h) (Or.inl ⟨by rfl, ?_⟩) hHeld ?_ ?_
          rotate_left
          · rintro w' ⟨s0, s1, s2, s3, s4, s5, s6, s7⟩
            go_simp
            with_reducible rfl
          rotate_left
          · simp only [Act.put, l1_, l2_, l3_, i64_w, i32_w]
            rfl
          refine one_ (i := 10) (N := some 35) #[true, true, true, true, true, true, true, true, true, true, true, true, false, false, false, false, false, false, false, false, false, false, false, false, false, false, false, false, false, false] rfl rfl (one_of HT_.out (by kernel_rfl)) (by decide) (fun K hK => ?_)
          refine goes_ Try.func22 (by kernel_rfl) rfl #[.agg #[.int .i64 a0_0, .slice A0_1 l0_1.length c0_1]] (by rfl) rfl rfl (by (try simp only [List.map_toArray, List.map_cons, List.map_nil]); first | done | rfl | (simp only [List.length_drop, List.length_take]; rfl)) ?_
          with_reducible refine (hawserlaw16_plain.calls a0_0 (fun k_ => k_ < w.heap.size) _ _ l0_1 t238 t239 _ ?side1 A12.out).mono ?_
          (case side1 => exact Kd.V_mk HC0_1.out (Kd.F_below (Kd.C_F (Kd.heap_int .i64) HR0_1.out) (by repeat (first | (with_reducible first | exact HB.out | apply pA_ | apply pN_ | apply pD_ | refine bs_ ?_ GE208.out | refine bs_ ?_ GE209.out | refine bs_ ?_ GE218.out | refine bs_ ?_ GE219.out) | exact HB.out))))
          rintro e w51 ⟨v240, rfl, ho0, hb⟩
          refine ⟨_, rfl, ?_⟩
          have n0_ := A_ (Tw.V_below (by (with_reducible repeat (first | apply Tw.V_alloc | apply Tw.V_drewN | apply Tw.V_drew)); exact HO213.out) hb)
          have n1_ := A_ (Tw.V_below (by (with_reducible repeat (first | apply Tw.V_alloc | apply Tw.V_drewN | apply Tw.V_drew)); exact HO217.out) hb)
          have n2_ := A_ (Kd.R_below (by (with_reducible repeat (first | apply Kd.R_alloc | apply Kd.R_drewN | apply Kd.R_drew)); exact HO224.out) hb)
          have n3_ := A_ (Kd.R_below (by (with_reducible repeat (first | apply Kd.R_alloc | apply Kd.R_drewN | apply Kd.R_drew)); exact HO227.out) hb)
          have n4_ := A_ (Kd.V_below (by (with_reducible repeat (first | apply vA_ | apply vN_ | apply vD_)); exact HO232.out) hb)
          have n5_ := A_ (Kd.V_below (by (with_reducible repeat (first | apply vA_ | apply vN_ | apply vD_)); exact HO236.out) hb)
          have n6_ := A_ (Kd.V_lower (Kd.V_mono (ok' := fun k_ => some k_ ≠ (.slice Ao40 y222.length co40 : Value).ownBlock ∧ some k_ ≠ (.slice Ao43 y225.length co43 : Value).ownBlock ∧ k_ ≠ gb208 ∧ k_ ≠ gb209 ∧ k_ ≠ gb218 ∧ k_ ≠ gb219) ho0 (fun k_ hk_ => ⟨Or.elim hk_ (fun hs_ => fun e_ => Nat.not_le.2 hs_ (Kd.R_base HO224.out k_ e_.symm)) (fun hn_ => (Kd.fresh' (Kd.R_lt (by (with_reducible repeat (first | apply Kd.R_alloc | apply Kd.R_drewN | apply Kd.R_drew)); exact HO224.out)) k_ hn_)), Or.elim hk_ (fun hs_ => fun e_ => Nat.not_le.2 hs_ (Kd.R_base HO227.out k_ e_.symm)) (fun hn_ => (Kd.fresh' (Kd.R_lt (by (with_reducible repeat (first | apply Kd.R_alloc | apply Kd.R_drewN | apply Kd.R_drew)); exact HO227.out)) k_ hn_)), Or.elim hk_ (fun hs_ => fun e_ => Nat.not_le.2 hs_ (by rw [e_]; exact GW208.out)) (fun hn_ => (Kd.freshB (g := gb208) (o := .cells #[.int .i64 a0_0, .slice A0_1 l0_1.length c0_1] 32 (0, 0)) (by (with_reducible repeat (first | refine bN_ ?_ _ | refine bD_ ?_ | refine bA_ ?_ _)); exact BK208.out) k_ hn_)), Or.elim hk_ (fun hs_ => fun e_ => Nat.not_le.2 hs_ (by rw [e_]; exact GW209.out)) (fun hn_ => (Kd.freshB (g := gb209) (o := .cells #[.int .i64 a1_0, .slice A1_1 l1_1.length c1_1] 32 (0, 0)) (by (with_reducible repeat (first | refine bN_ ?_ _ | refine bD_ ?_ | refine bA_ ?_ _)); exact BK209.out) k_ hn_)), Or.elim hk_ (fun hs_ => fun e_ => Nat.not_le.2 hs_ (by rw [e_]; exact GW218.out)) (fun hn_ => (Kd.freshB (g := gb218) (o := .cells #[.int .i64 t210, .slice Ao29 t211.length co29] 32 (0, 0)) (by (with_reducible repeat (first | refine bN_ ?_ _ | refine bD_ ?_ | refine bA_ ?_ _)); exact BK218.out) k_ hn_)), Or.elim hk_ (fun hs_ => fun e_ => Nat.not_le.2 hs_ (by rw [e_]; exact GW219.out)) (fun hn_ => (Kd.freshB (g := gb219) (o := .cells #[.int .i64 t214, .slice Ao32 t215.length co32] 32 (0, 0)) (by (with_reducible repeat (first | refine bN_ ?_ _ | refine bD_ ?_ | refine bA_ ?_ _)); exact BK219.out) k_ hn_))⟩)) (below_size (by repeat (first | (with_reducible first | exact HB.out | apply pA_ | apply pN_ | apply pD_ | refine bs_ ?_ GE208.out | refine bs_ ?_ GE209.out | refine bs_ ?_ GE218.out | refine bs_ ?_ GE219.out) | exact HB.out))))
          have n7_ := A_ (blk_below (g := gb208) (o := .cells #[.int .i64 a0_0, .slice A0_1 l0_1.length c0_1] 32 (0, 0)) (by (with_reducible repeat (first | refine bN_ ?_ _ | refine bD_ ?_ | refine bA_ ?_ _)); exact BK208.out) hb)
          have n8_ := A_ (blk_below (g := gb209) (o := .cells #[.int .i64 a1_0, .slice A1_1 l1_1.length c1_1] 32 (0, 0)) (by (with_reducible repeat (first | refine bN_ ?_ _ | refine bD_ ?_ | refine bA_ ?_ _)); exact BK209.out) hb)
          have n9_ := A_ (blk_below (g := gb218) (o := .cells #[.int .i64 t210, .slice Ao29 t211.length co29] 32 (0, 0)) (by (with_reducible repeat (first | refine bN_ ?_ _ | refine bD_ ?_ | refine bA_ ?_ _)); exact BK218.out) hb)
          have n10_ := A_ (blk_below (g := gb219) (o := .cells #[.int .i64 t214, .slice Ao32 t215.length co32] 32 (0, 0)) (by (with_reducible repeat (first | refine bN_ ?_ _ | refine bD_ ?_ | refine bA_ ?_ _)); exact BK219.out) hb)
          have n11_ := A_ (below_step (by repeat (first | (with_reducible first | exact HB.out | apply pA_ | apply pN_ | apply pD_ | refine bs_ ?_ GE208.out | refine bs_ ?_ GE209.out | refine bs_ ?_ GE218.out | refine bs_ ?_ GE219.out) | exact HB.out)) hb)
          clear HO213
          clear HO217
          clear HO224
          clear HO227
          clear HO232
          clear HO236
          clear BK208
          clear BK209
          clear BK218
          clear BK219
          clear HB
          have HO213 := n0_
          have HO217 := n1_
          have HO224 := n2_
          have HO227 := n3_
          have HO232 := n4_
          have HO236 := n5_
          have HO241 := n6_
          have BK208 := n7_
          have BK209 := n8_
          have BK218 := n9_
          have BK219 := n10_
          have HB := n11_
          clear n0_ n1_ n2_ n3_ n4_ n5_ n6_ n7_ n8_ n9_ n10_ n11_
          (try clear hb)
          (try clear hb2)
          (try clear hk)
          (try clear hi)
          (try clear ho0)
          refine hK.out _ _ ⟨(bc_ BK208.out 0).trans rfl, (bc_ BK208.out 1).trans rfl, (bc_ BK209.out 0).trans rfl, (bc_ BK209.out 1).trans rfl, (bc_ BK218.out 0).trans rfl, (bc_ BK218.out 1).trans rfl, (bc_ BK219.out 0).trans rfl, (bc_ BK219.out 1).trans rfl⟩ (fun hHeld => ?_)
          clear hK K
          refine norm_ (a' := ?_) ?_ ?_
          rotate_left
          · show Act.put _ (some 35) _ = _
            simp only [Act.put, l1_, l2_, l3_, i64_w, i32_w]
            rfl
          refine one_ (i := 12) (N := some 37) #[true, true, true, true, true, true, true, true, true, true, true, true, true, false, false, false, false, false, false, false, false, false, false, false, false, false, false, false, false, false] rfl rfl (one_of HT_.out (by kernel_rfl)) (by decide) (fun K hK => ?_)
          refine goes_ Try.func22 (by kernel_rfl) rfl #[.agg #[.int .i64 a1_0, .slice A1_1 l1_1.length c1_1]] (by rfl) rfl rfl (by (try simp only [List.map_toArray, List.map_cons, List.map_nil]); first | done | rfl | (simp only [List.length_drop, List.length_take]; rfl)) ?_
          with_reducible refine (hawserlaw16_plain.calls a1_0 (fun k_ => k_ < w.heap.size) _ _ l1_1 t242 t243 _ ?side1 A13.out).mono ?_
          (case side1 => exact Kd.V_mk HC1_1.out (Kd.F_below (Kd.C_F (Kd.heap_int .i64) HR1_1.out) (by repeat (first | (with_reducible first | exact HB.out | apply pA_ | apply pN_ | apply pD_ | refine bs_ ?_ GE208.out | refine bs_ ?_ GE209.out | refine bs_ ?_ GE218.out | refine bs_ ?_ GE219.out) | exact HB.out))))
          rintro e w52 ⟨v244, rfl, ho0, hb⟩
          refine ⟨_, rfl, ?_⟩
          have n0_ := A_ (Tw.V_below (by (with_reducible repeat (first | apply Tw.V_alloc | apply Tw.V_drewN | apply Tw.V_drew)); exact HO213.out) hb)
          have n1_ := A_ (Tw.V_below (by (with_reducible repeat (first | apply Tw.V_alloc | apply Tw.V_drewN | apply Tw.V_drew)); exact HO217.out) hb)
          have n2_ := A_ (Kd.R_below (by (with_reducible repeat (first | apply Kd.R_alloc | apply Kd.R_drewN | apply Kd.R_drew)); exact HO224.out) hb)
          have n3_ := A_ (Kd.R_below (by (with_reducible repeat (first | apply Kd.R_alloc | apply Kd.R_drewN | apply Kd.R_drew)); exact HO227.out) hb)
          have n4_ := A_ (Kd.V_below (by (with_reducible repeat (first | apply vA_ | apply vN_ | apply vD_)); exact HO232.out) hb)
          have n5_ := A_ (Kd.V_below (by (with_reducible repeat (first | apply vA_ | apply vN_ | apply vD_)); exact HO236.out) hb)
          have n6_ := A_ (Kd.V_below (by (with_reducible repeat (first | apply vA_ | apply vN_ | apply vD_)); exact HO241.out) hb)
          have n7_ := A_ (Kd.V_lower (Kd.V_mono (ok' := fun k_ => some k_ ≠ (.slice Ao40 y222.length co40 : Value).ownBlock ∧ some k_ ≠ (.slice Ao43 y225.length co43 : Value).ownBlock ∧ k_ ≠ gb208 ∧ k_ ≠ gb209 ∧ k_ ≠ gb218 ∧ k_ ≠ gb219) ho0 (fun k_ hk_ => ⟨Or.elim hk_ (fun hs_ => fun e_ => Nat.not_le.2 hs_ (Kd.R_base HO224.out k_ e_.symm)) (fun hn_ => (Kd.fresh' (Kd.R_lt (by (with_reducible repeat (first | apply Kd.R_alloc | apply Kd.R_drewN | apply Kd.R_drew)); exact HO224.out)) k_ hn_)), Or.elim hk_ (fun hs_ => fun e_ => Nat.not_le.2 hs_ (Kd.R_base HO227.out k_ e_.symm)) (fun hn_ => (Kd.fresh' (Kd.R_lt (by (with_reducible repeat (first | apply Kd.R_alloc | apply Kd.R_drewN | apply Kd.R_drew)); exact HO227.out)) k_ hn_)), Or.elim hk_ (fun hs_ => fun e_ => Nat.not_le.2 hs_ (by rw [e_]; exact GW208.out)) (fun hn_ => (Kd.freshB (g := gb208) (o := .cells #[.int .i64 a0_0, .slice A0_1 l0_1.length c0_1] 32 (0, 0)) (by (with_reducible repeat (first | refine bN_ ?_ _ | refine bD_ ?_ | refine bA_ ?_ _)); exact BK208.out) k_ hn_)), Or.elim hk_ (fun hs_ => fun e_ => Nat.not_le.2 hs_ (by rw [e_]; exact GW209.out)) (fun hn_ => (Kd.freshB (g := gb209) (o := .cells #[.int .i64 a1_0, .slice A1_1 l1_1.length c1_1] 32 (0, 0)) (by (with_reducible repeat (first | refine bN_ ?_ _ | refine bD_ ?_ | refine bA_ ?_ _)); exact BK209.out) k_ hn_)), Or.elim hk_ (fun hs_ => fun e_ => Nat.not_le.2 hs_ (by rw [e_]; exact GW218.out)) (fun hn_ => (Kd.freshB (g := gb218) (o := .cells #[.int .i64 t210, .slice Ao29 t211.length co29] 32 (0, 0)) (by (with_reducible repeat (first | refine bN_ ?_ _ | refine bD_ ?_ | refine bA_ ?_ _)); exact BK218.out) k_ hn_)), Or.elim hk_ (fun hs_ => fun e_ => Nat.not_le.2 hs_ (by rw [e_]; exact GW219.out)) (fun hn_ => (Kd.freshB (g := gb219) (o := .cells #[.int .i64 t214, .slice Ao32 t215.length co32] 32 (0, 0)) (by (with_reducible repeat (first | refine bN_ ?_ _ | refine bD_ ?_ | refine bA_ ?_ _)); exact BK219.out) k_ hn_))⟩)) (below_size (by repeat (first | (with_reducible first | exact HB.out | apply pA_ | apply pN_ | apply pD_ | refine bs_ ?_ GE208.out | refine bs_ ?_ GE209.out | refine bs_ ?_ GE218.out | refine bs_ ?_ GE219.out) | exact HB.out))))
          have n8_ := A_ (blk_below (g := gb208) (o := .cells #[.int .i64 a0_0, .slice A0_1 l0_1.length c0_1] 32 (0, 0)) (by (with_reducible repeat (first | refine bN_ ?_ _ | refine bD_ ?_ | refine bA_ ?_ _)); exact BK208.out) hb)
          have n9_ := A_ (blk_below (g := gb209) (o := .cells #[.int .i64 a1_0, .slice A1_1 l1_1.length c1_1] 32 (0, 0)) (by (with_reducible repeat (first | refine bN_ ?_ _ | refine bD_ ?_ | refine bA_ ?_ _)); exact BK209.out) hb)
          have n10_ := A_ (blk_below (g := gb218) (o := .cells #[.int .i64 t210, .slice Ao29 t211.length co29] 32 (0, 0)) (by (with_reducible repeat (first | refine bN_ ?_ _ | refine bD_ ?_ | refine bA_ ?_ _)); exact BK218.out) hb)
          have n11_ := A_ (blk_below (g := gb219) (o := .cells #[.int .i64 t214, .slice Ao32 t215.length co32] 32 (0, 0)) (by (with_reducible repeat (first | refine bN_ ?_ _ | refine bD_ ?_ | refine bA_ ?_ _)); exact BK219.out) hb)
          have n12_ := A_ (below_step (by repeat (first | (with_reducible first | exact HB.out | apply pA_ | apply pN_ | apply pD_ | refine bs_ ?_ GE208.out | refine bs_ ?_ GE209.out | refine bs_ ?_ GE218.out | refine bs_ ?_ GE219.out) | exact HB.out)) hb)
          clear HO213
          clear HO217
          clear HO224
          clear HO227
          clear HO232
          clear HO236
          clear HO241
          clear BK208
          clear BK209
          clear BK218
          clear BK219
          clear HB
          have HO213 := n0_
          have HO217 := n1_
          have HO224 := n2_
          have HO227 := n3_
          have HO232 := n4_
          have HO236 := n5_
          have HO241 := n6_
          have HO245 := n7_
          have BK208 := n8_
          have BK209 := n9_
          have BK218 := n10_
          have BK219 := n11_
          have HB := n12_
          clear n0_ n1_ n2_ n3_ n4_ n5_ n6_ n7_ n8_ n9_ n10_ n11_ n12_
          (try clear hb)
          (try clear hb2)
          (try clear hk)
          (try clear hi)
          (try clear ho0)
          obtain ⟨Ao53, co53, eo53⟩ := Kd.V_slice HO241.out
          (first | subst eo53 | (injection eo53 with f1_ f2_ f3_; have f4_ := f1_.symm; have f5_ := f3_.symm; clear f1_ f2_ f3_; subst f4_; subst f5_))
          obtain ⟨Ao54, co54, eo54⟩ := Kd.V_slice HO245.out
          (first | subst eo54 | (injection eo54 with f1_ f2_ f3_; have f4_ := f1_.symm; have f5_ := f3_.symm; clear f1_ f2_ f3_; subst f4_; subst f5_))
          refine hK.out _ _ ⟨(bc_ BK208.out 0).trans rfl, (bc_ BK208.out 1).trans rfl, (bc_ BK209.out 0).trans rfl, (bc_ BK209.out 1).trans rfl, (bc_ BK218.out 0).trans rfl, (bc_ BK218.out 1).trans rfl, (bc_ BK219.out 0).trans rfl, (bc_ BK219.out 1).trans rfl⟩ (fun hHeld => ?_)
          clear hK K
          refine norm_ (a' := ?_) ?_ ?_
          rotate_left
          · show Act.put _ (some 37) _ = _
            simp only [Act.put, l1_, l2_, l3_, i64_w, i32_w]
            rfl
          refine one_ (i := 13) (N := some 38) #[true, true, true, true, true, true, true, true, true, true, true, true, true, true, false, false, false, false, false, false, false, false, false, false, false, false, false, false, false, false] rfl rfl (one_of HT_.out (by kernel_rfl)) (by decide) (fun K hK => ?_)
          refine goes_ Try.func30 (by kernel_rfl) rfl #[.agg #[.int .i64 t238, .slice Ao53 t239.length co53], .agg #[.int .i64 t242, .slice Ao54 t243.length co54]] (by rfl) rfl rfl (by (try simp only [List.map_toArray, List.map_cons, List.map_nil]); first | done | rfl | (simp only [List.length_drop, List.length_take]; rfl)) ?_
          with_reducible refine (hawserref16_Alike.calls k t238 _ _ t239 t242 _ _ t243 t246 _ ?side1 ?side2 ?side3 ?side4 A14.out).mono ?_
          (case side1 => repeat (first | exact (Kd.V_reads' HO241.out).2.2 | (with_reducible refine Kd.C_alloc ?_ _) | (with_reducible refine Kd.C_drewN ?_ _) | (with_reducible refine Kd.C_drew ?_)))
          (case side2 => exact (Kd.V_reads' HO241.out).2.1)
          (case side3 => repeat (first | exact (Kd.V_reads' HO245.out).2.2 | (with_reducible refine Kd.C_alloc ?_ _) | (with_reducible refine Kd.C_drewN ?_ _) | (with_reducible refine Kd.C_drew ?_)))
          (case side4 => exact (Kd.V_reads' HO245.out).2.1)
          rintro e w55 ⟨rfl, hb⟩
          refine ⟨_, rfl, ?_⟩
          have n0_ := A_ (Tw.V_below (by (with_reducible repeat (first | apply Tw.V_alloc | apply Tw.V_drewN | apply Tw.V_drew)); exact HO213.out) hb)
          have n1_ := A_ (Tw.V_below (by (with_reducible repeat (first | apply Tw.V_alloc | apply Tw.V_drewN | apply Tw.V_drew)); exact HO217.out) hb)
          have n2_ := A_ (Kd.R_below (by (with_reducible repeat (first | apply Kd.R_alloc | apply Kd.R_drewN | apply Kd.R_drew)); exact HO224.out) hb)
          have n3_ := A_ (Kd.R_below (by (with_reducible repeat (first | apply Kd.R_alloc | apply Kd.R_drewN | apply Kd.R_drew)); exact HO227.out) hb)
          have n4_ := A_ (Kd.V_below (by (with_reducible repeat (first | apply vA_ | apply vN_ | apply vD_)); exact HO232.out) hb)
          have n5_ := A_ (Kd.V_below (by (with_reducible repeat (first | apply vA_ | apply vN_ | apply vD_)); exact HO236.out) hb)
          have n6_ := A_ (Kd.V_below (by (with_reducible repeat (first | apply vA_ | apply vN_ | apply vD_)); exact HO241.out) hb)
          have n7_ := A_ (Kd.V_below (by (with_reducible repeat (first | apply vA_ | apply vN_ | apply vD_)); exact HO245.out) hb)
          have n8_ := A_ (blk_below (g := gb208) (o := .cells #[.int .i64 a0_0, .slice A0_1 l0_1.length c0_1] 32 (0, 0)) (by (with_reducible repeat (first | refine bN_ ?_ _ | refine bD_ ?_ | refine bA_ ?_ _)); exact BK208.out) hb)
          have n9_ := A_ (blk_below (g := gb209) (o := .cells #[.int .i64 a1_0, .slice A1_1 l1_1.length c1_1] 32 (0, 0)) (by (with_reducible repeat (first | refine bN_ ?_ _ | refine bD_ ?_ | refine bA_ ?_ _)); exact BK209.out) hb)
          have n10_ := A_ (blk_below (g := gb218) (o := .cells #[.int .i64 t210, .slice Ao29 t211.length co29] 32 (0, 0)) (by (with_reducible repeat (first | refine bN_ ?_ _ | refine bD_ ?_ | refine bA_ ?_ _)); exact BK218.out) hb)
          have n11_ := A_ (blk_below (g := gb219) (o := .cells #[.int .i64 t214, .slice Ao32 t215.length co32] 32 (0, 0)) (by (with_reducible repeat (first | refine bN_ ?_ _ | refine bD_ ?_ | refine bA_ ?_ _)); exact BK219.out) hb)
          have n12_ := A_ (below_step (by repeat (first | (with_reducible first | exact HB.out | apply pA_ | apply pN_ | apply pD_ | refine bs_ ?_ GE208.out | refine bs_ ?_ GE209.out | refine bs_ ?_ GE218.out | refine bs_ ?_ GE219.out) | exact HB.out)) hb)
          clear HO213
          clear HO217
          clear HO224
          clear HO227
          clear HO232
          clear HO236
          clear HO241
          clear HO245
          clear BK208
          clear BK209
          clear BK218
          clear BK219
          clear HB
          have HO213 := n0_
          have HO217 := n1_
          have HO224 := n2_
          have HO227 := n3_
          have HO232 := n4_
          have HO236 := n5_
          have HO241 := n6_
          have HO245 := n7_
          have BK208 := n8_
          have BK209 := n9_
          have BK218 := n10_
          have BK219 := n11_
          have HB := n12_
          clear n0_ n1_ n2_ n3_ n4_ n5_ n6_ n7_ n8_ n9_ n10_ n11_ n12_
          (try clear hb)
          (try clear hb2)
          (try clear hk)
          (try clear hi)
          refine hK.out _ _ ⟨(bc_ BK208.out 0).trans rfl, (bc_ BK208.out 1).trans rfl, (bc_ BK209.out 0).trans rfl, (bc_ BK209.out 1).trans rfl, (bc_ BK218.out 0).trans rfl, (bc_ BK218.out 1).trans rfl, (bc_ BK219.out 0).trans rfl, (bc_ BK219.out 1).trans rfl⟩ (fun hHeld => ?_)
          clear hK K
          refine norm_ (a' := ?_) ?_ ?_
          rotate_left
          · show Act.put _ (some 38) _ = _
            simp only [Act.put, l1_, l2_, l3_, i64_w, i32_w]
            rfl
          refine pure_ (i := 14) (N := some 39) (v := ?_) (a' := ?_) #[true, true, true, true, true, true, true, true, true, true, true, true, true, true, true, false, false, false, false, false, false, false, false, false, false, false, false, false, false, false] rfl rfl (any_of HT_.out (by kernel_rfl)) (fun _ _ _ h => h) (Or.inl ⟨by rfl, ?_⟩) ?_ ?_
          rotate_left
          · intro w'
            go_simp
            with_reducible rfl
          rotate_left
          · simp only [Act.put, l1_, l2_, l3_, i64_w, i32_w]
            rfl
          refine pure_ (i := 15) (N := some 40) (v := ?_) (a' := ?_) #[true, true, true, true, true, true, true, true, true, true, true, true, true, true, true, true, false, false, false, false, false, false, false, false, false, false, false, false, false, false] rfl rfl (any_of HT_.out (by kernel_rfl)) (fun _ _ _ h => h) (Or.inl ⟨by rfl, ?_⟩) ?_ ?_
          rotate_left
          · intro w'
            go_simp
            with_reducible rfl
          rotate_left
          · simp only [Act.put, l1_, l2_, l3_, i64_w, i32_w]
            rfl
          refine pure_ (i := 16) (N := some 41) (v := ?_) (a' := ?_) #[true, true, true, true, true, true, true, true, true, true, true, true, true, true, true, true, true, false, false, false, false, false, false, false, false, false, false, false, false, false] rfl rfl (any_of HT_.out (by kernel_rfl)) (fun _ _ _ h => h) (Or.inl ⟨by rfl, ?_⟩) ?_ ?_
          rotate_left
          · intro w'
            go_simp
            with_reducible rfl
          rotate_left
          · simp only [Act.put, l1_, l2_, l3_, i64_w, i32_w]
            rfl
          refine take_ (i := 17) (N := some 42) (v := ?_) (a' := ?_) #[true, true, true, true, true, true, true, true, true, true, true, true, true, true, true, true, true, true, false, false, false, false, false, false, false, false, false, false, false, false] rfl rfl (take_ofW HT_.out HW_.out (by kernel_rfl)) (fun _ _ _ h => h) (Or.inl ⟨by rfl, ?_⟩) hHeld ?_ ?_
          rotate_left
          · rintro w' ⟨s0, s1, s2, s3, s4, s5, s6, s7⟩
            go_simp
            with_reducible rfl
          rotate_left
          · simp only [Act.put, l1_, l2_, l3_, i64_w, i32_w]
            rfl
          refine take_ (i := 18) (N := some 43) (v := ?_) (a' := ?_) #[true, true, true, true, true, true, true, true, true, true, true, true, true, true, true, true, true, true, true, false, false, false, false, false, false, false, false, false, false, false] rfl rfl (take_ofW HT_.out HW_.out (by kernel_rfl)) (fun _ _ _ h => h) (Or.inl ⟨by rfl, ?_⟩) hHeld ?_ ?_
          rotate_left
          · rintro w' ⟨s0, s1, s2, s3, s4, s5, s6, s7⟩
            go_simp
            with_reducible rfl
          rotate_left
          · simp only [Act.put, l1_, l2_, l3_, i64_w, i32_w]
            rfl
          refine one_ (i := 19) (N := some 44) #[true, true, true, true, true, true, true, true, true, true, true, true, true, true, true, true, true, true, true, true, false, false, false, false, false, false, false, false, false, false] rfl rfl (one_of HT_.out (by kernel_rfl)) (by decide) (fun K hK => ?_)
          refine goes_ Try.func24 (by kernel_rfl) rfl #[.agg #[.int .i64 t210, .slice Ao29 t211.length co29], .agg #[.int .i64 a0_0, .slice A0_1 l0_1.length c0_1]] (by rfl) rfl rfl (by (try simp only [List.map_toArray, List.map_cons, List.map_nil]); first | done | rfl | (simp only [List.length_drop, List.length_take]; rfl)) ?_
          with_reducible refine (hawserlaw16_kept.calls k t210 _ _ t211 a0_0 _ _ l0_1 true _ ?side1 ?side2 ?side3 ?side4 A16.out ⟨(Tw.marks HO213.out).1, (by repeat (first | exact (Tw.marks HO213.out).2 | (with_reducible refine Kd.C_alloc ?_ _) | (with_reducible refine Kd.C_drewN ?_ _) | (with_reducible refine Kd.C_drew ?_)))⟩).mono ?_
          (case side1 => repeat (first | exact (Tw.V_reads' HO213.out).2.2 | (with_reducible refine Kd.C_alloc ?_ _) | (with_reducible refine Kd.C_drewN ?_ _) | (with_reducible refine Kd.C_drew ?_)))
          (case side2 => exact (Tw.V_reads' HO213.out).2.1)
          (case side3 => repeat (first | exact (Kd.C_below HR0_1.out HB.out) | (with_reducible refine Kd.C_alloc ?_ _) | (with_reducible refine Kd.C_drewN ?_ _) | (with_reducible refine Kd.C_drew ?_)))
          (case side4 => exact HC0_1.out)
          rintro e w56 ⟨rfl, hb⟩
          refine ⟨_, rfl, ?_⟩
          have n0_ := A_ (Tw.V_below (by (with_reducible repeat (first | apply Tw.V_alloc | apply Tw.V_drewN | apply Tw.V_drew)); exact HO213.out) hb)
          have n1_ := A_ (Tw.V_below (by (with_reducible repeat (first | apply Tw.V_alloc | apply Tw.V_drewN | apply Tw.V_drew)); exact HO217.out) hb)
          have n2_ := A_ (Kd.R_below (by (with_reducible repeat (first | apply Kd.R_alloc | apply Kd.R_drewN | apply Kd.R_drew)); exact HO224.out) hb)
          have n3_ := A_ (Kd.R_below (by (with_reducible repeat (first | apply Kd.R_alloc | apply Kd.R_drewN | apply Kd.R_drew)); exact HO227.out) hb)
          have n4_ := A_ (Kd.V_below (by (with_reducible repeat (first | apply vA_ | apply vN_ | apply vD_)); exact HO232.out) hb)
          have n5_ := A_ (Kd.V_below (by (with_reducible repeat (first | apply vA_ | apply vN_ | apply vD_)); exact HO236.out) hb)
          have n6_ := A_ (Kd.V_below (by (with_reducible repeat (first | apply vA_ | apply vN_ | apply vD_)); exact HO241.out) hb)
          have n7_ := A_ (Kd.V_below (by (with_reducible repeat (first | apply vA_ | apply vN_ | apply vD_)); exact HO245.out) hb)
          have n8_ := A_ (blk_below (g := gb208) (o := .cells #[.int .i64 a0_0, .slice A0_1 l0_1.length c0_1] 32 (0, 0)) (by (with_reducible repeat (first | refine bN_ ?_ _ | refine bD_ ?_ | refine bA_ ?_ _)); exact BK208.out) hb)
          have n9_ := A_ (blk_below (g := gb209) (o := .cells #[.int .i64 a1_0, .slice A1_1 l1_1.length c1_1] 32 (0, 0)) (by (with_reducible repeat (first | refine bN_ ?_ _ | refine bD_ ?_ | refine bA_ ?_ _)); exact BK209.out) hb)
          have n10_ := A_ (blk_below (g := gb218) (o := .cells #[.int .i64 t210, .slice Ao29 t211.length co29] 32 (0, 0)) (by (with_reducible repeat (first | refine bN_ ?_ _ | refine bD_ ?_ | refine bA_ ?_ _)); exact BK218.out) hb)
          have n11_ := A_ (blk_below (g := gb219) (o := .cells #[.int .i64 t214, .slice Ao32 t215.length co32] 32 (0, 0)) (by (with_reducible repeat (first | refine bN_ ?_ _ | refine bD_ ?_ | refine bA_ ?_ _)); exact BK219.out) hb)
          have n12_ := A_ (below_step (by repeat (first | (with_reducible first | exact HB.out | apply pA_ | apply pN_ | apply pD_ | refine bs_ ?_ GE208.out | refine bs_ ?_ GE209.out | refine bs_ ?_ GE218.out | refine bs_ ?_ GE219.out) | exact HB.out)) hb)
          clear HO213
          clear HO217
          clear HO224
          clear HO227
          clear HO232
          clear HO236
          clear HO241
          clear HO245
          clear BK208
          clear BK209
          clear BK218
          clear BK219
          clear HB
          have HO213 := n0_
          have HO217 := n1_
          have HO224 := n2_
          have HO227 := n3_
          have HO232 := n4_
          have HO236 := n5_
          have HO241 := n6_
          have HO245 := n7_
          have BK208 := n8_
          have BK209 := n9_
          have BK218 := n10_
          have BK219 := n11_
          have HB := n12_
          clear n0_ n1_ n2_ n3_ n4_ n5_ n6_ n7_ n8_ n9_ n10_ n11_ n12_
          (try clear hb)
          (try clear hb2)
          (try clear hk)
          (try clear hi)
          refine hK.out _ _ ⟨(bc_ BK208.out 0).trans rfl, (bc_ BK208.out 1).trans rfl, (bc_ BK209.out 0).trans rfl, (bc_ BK209.out 1).trans rfl, (bc_ BK218.out 0).trans rfl, (bc_ BK218.out 1).trans rfl, (bc_ BK219.out 0).trans rfl, (bc_ BK219.out 1).trans rfl⟩ (fun hHeld => ?_)
          clear hK K
          refine norm_ (a' := ?_) ?_ ?_
          rotate_left
          · show Act.put _ (some 44) _ = _
            simp only [Act.put, l1_, l2_, l3_, i64_w, i32_w]
            rfl
          refine pure_ (i := 20) (N := some 45) (v := ?_) (a' := ?_) #[true, true, true, true, true, true, true, true, true, true, true, true, true, true, true, true, true, true, true, true, true, false, false, false, false, false, false, false, false, false] rfl rfl (any_of HT_.out (by kernel_rfl)) (fun _ _ _ h => h) (Or.inl ⟨by rfl, ?_⟩) ?_ ?_
          rotate_left
          · intro w'
            go_simp
            with_reducible rfl
          rotate_left
          · simp only [Act.put, l1_, l2_, l3_, i64_w, i32_w]
            rfl
          refine pure_ (i := 21) (N := some 46) (v := ?_) (a' := ?_) #[true, true, true, true, true, true, true, true, true, true, true, true, true, true, true, true, true, true, true, true, true, true, false, false, false, false, false, false, false, false] rfl rfl (any_of HT_.out (by kernel_rfl)) (fun _ _ _ h => h) (Or.inl ⟨by rfl, ?_⟩) ?_ ?_
          rotate_left
          · intro w'
            go_simp
            with_reducible rfl
          rotate_left
          · simp only [Act.put, l1_, l2_, l3_, i64_w, i32_w]
            rfl
          refine take_ (i := 22) (N := some 47) (v := ?_) (a' := ?_) #[true, true, true, true, true, true, true, true, true, true, true, true, true, true, true, true, true, true, true, true, true, true, true, false, false, false, false, false, false, false] rfl rfl (take_ofW HT_.out HW_.out (by kernel_rfl)) (fun _ _ _ h => h) (Or.inl ⟨by rfl, ?_⟩) hHeld ?_ ?_
          rotate_left
          · rintro w' ⟨s0, s1, s2, s3, s4, s5, s6, s7⟩
            go_simp
            with_reducible rfl
          rotate_left
          · simp only [Act.put, l1_, l2_, l3_, i64_w, i32_w]
            rfl
          refine take_ (i := 23) (N := some 48) (v := ?_) (a' := ?_) #[true, true, true, true, true, true, true, true, true, true, true, true, true, true, true, true, true, true, true, true, true, true, true, true, false, false, false, false, false, false] rfl rfl (take_ofW HT_.out HW_.out (by kernel_rfl)) (fun _ _ _ h => h) (Or.inl ⟨by rfl, ?_⟩) hHeld ?_ ?_
          rotate_left
          · rintro w' ⟨s0, s1, s2, s3, s4, s5, s6, s7⟩
            go_simp
            with_reducible rfl
          rotate_left
          · simp only [Act.put, l1_, l2_, l3_, i64_w, i32_w]
            rfl
          refine one_ (i := 24) (N := some 49) #[true, true, true, true, true, true, true, true, true, true, true, true, true, true, true, true, true, true, true, true, true, true, true, true, true, false, false, false, false, false] rfl rfl (one_of HT_.out (by kernel_rfl)) (by decide) (fun K hK => ?_)
          refine goes_ Try.func24 (by kernel_rfl) rfl #[.agg #[.int .i64 t214, .slice Ao32 t215.length co32], .agg #[.int .i64 a1_0, .slice A1_1 l1_1.length c1_1]] (by rfl) rfl rfl (by (try simp only [List.map_toArray, List.map_cons, List.map_nil]); first | done | rfl | (simp only [List.length_drop, List.length_take]; rfl)) ?_
          with_reducible refine (hawserlaw16_kept.calls k t214 _ _ t215 a1_0 _ _ l1_1 true _ ?side1 ?side2 ?side3 ?side4 A18.out ⟨(Tw.marks HO217.out).1, (by repeat (first | exact (Tw.marks HO217.out).2 | (with_reducible refine Kd.C_alloc ?_ _) | (with_reducible refine Kd.C_drewN ?_ _) | (with_reducible refine Kd.C_drew ?_)))⟩).mono ?_
          (case side1 => repeat (first | exact (Tw.V_reads' HO217.out).2.2 | (with_reducible refine Kd.C_alloc ?_ _) | (with_reducible refine Kd.C_drewN ?_ _) | (with_reducible refine Kd.C_drew ?_)))
          (case side2 => exact (Tw.V_reads' HO217.out).2.1)
          (case side3 => repeat (first | exact (Kd.C_below HR1_1.out HB.out) | (with_reducible refine Kd.C_alloc ?_ _) | (with_reducible refine Kd.C_drewN ?_ _) | (with_reducible refine Kd.C_drew ?_)))
          (case side4 => exact HC1_1.out)
          rintro e w57 ⟨rfl, hb⟩
          refine ⟨_, rfl, ?_⟩
          have n0_ := A_ (Tw.V_below (by (with_reducible repeat (first | apply Tw.V_alloc | apply Tw.V_drewN | apply Tw.V_drew)); exact HO213.out) hb)
          have n1_ := A_ (Tw.V_below (by (with_reducible repeat (first | apply Tw.V_alloc | apply Tw.V_drewN | apply Tw.V_drew)); exact HO217.out) hb)
          have n2_ := A_ (Kd.R_below (by (with_reducible repeat (first | apply Kd.R_alloc | apply Kd.R_drewN | apply Kd.R_drew)); exact HO224.out) hb)
          have n3_ := A_ (Kd.R_below (by (with_reducible repeat (first | apply Kd.R_alloc | apply Kd.R_drewN | apply Kd.R_drew)); exact HO227.out) hb)
          have n4_ := A_ (Kd.V_below (by (with_reducible repeat (first | apply vA_ | apply vN_ | apply vD_)); exact HO232.out) hb)
          have n5_ := A_ (Kd.V_below (by (with_reducible repeat (first | apply vA_ | apply vN_ | apply vD_)); exact HO236.out) hb)
          have n6_ := A_ (Kd.V_below (by (with_reducible repeat (first | apply vA_ | apply vN_ | apply vD_)); exact HO241.out) hb)
          have n7_ := A_ (Kd.V_below (by (with_reducible repeat (first | apply vA_ | apply vN_ | apply vD_)); exact HO245.out) hb)
          have n8_ := A_ (blk_below (g := gb208) (o := .cells #[.int .i64 a0_0, .slice A0_1 l0_1.length c0_1] 32 (0, 0)) (by (with_reducible repeat (first | refine bN_ ?_ _ | refine bD_ ?_ | refine bA_ ?_ _)); exact BK208.out) hb)
          have n9_ := A_ (blk_below (g := gb209) (o := .cells #[.int .i64 a1_0, .slice A1_1 l1_1.length c1_1] 32 (0, 0)) (by (with_reducible repeat (first | refine bN_ ?_ _ | refine bD_ ?_ | refine bA_ ?_ _)); exact BK209.out) hb)
          have n10_ := A_ (blk_below (g := gb218) (o := .cells #[.int .i64 t210, .slice Ao29 t211.length co29] 32 (0, 0)) (by (with_reducible repeat (first | refine bN_ ?_ _ | refine bD_ ?_ | refine bA_ ?_ _)); exact BK218.out) hb)
          have n11_ := A_ (blk_below (g := gb219) (o := .cells #[.int .i64 t214, .slice Ao32 t215.length co32] 32 (0, 0)) (by (with_reducible repeat (first | refine bN_ ?_ _ | refine bD_ ?_ | refine bA_ ?_ _)); exact BK219.out) hb)
          have n12_ := A_ (below_step (by repeat (first | (with_reducible first | exact HB.out | apply pA_ | apply pN_ | apply pD_ | refine bs_ ?_ GE208.out | refine bs_ ?_ GE209.out | refine bs_ ?_ GE218.out | refine bs_ ?_ GE219.out) | exact HB.out)) hb)
          clear HO213
          clear HO217
          clear HO224
          clear HO227
          clear HO232
          clear HO236
          clear HO241
          clear HO245
          clear BK208
          clear BK209
          clear BK218
          clear BK219
          clear HB
          have HO213 := n0_
          have HO217 := n1_
          have HO224 := n2_
          have HO227 := n3_
          have HO232 := n4_
          have HO236 := n5_
          have HO241 := n6_
          have HO245 := n7_
          have BK208 := n8_
          have BK209 := n9_
          have BK218 := n10_
          have BK219 := n11_
          have HB := n12_
          clear n0_ n1_ n2_ n3_ n4_ n5_ n6_ n7_ n8_ n9_ n10_ n11_ n12_
          (try clear hb)
          (try clear hb2)
          (try clear hk)
          (try clear hi)
          refine hK.out _ _ ⟨(bc_ BK208.out 0).trans rfl, (bc_ BK208.out 1).trans rfl, (bc_ BK209.out 0).trans rfl, (bc_ BK209.out 1).trans rfl, (bc_ BK218.out 0).trans rfl, (bc_ BK218.out 1).trans rfl, (bc_ BK219.out 0).trans rfl, (bc_ BK219.out 1).trans rfl⟩ (fun hHeld => ?_)
          clear hK K
          refine norm_ (a' := ?_) ?_ ?_
          rotate_left
          · show Act.put _ (some 49) _ = _
            simp only [Act.put, l1_, l2_, l3_, i64_w, i32_w]
            rfl
          refine pure_ (i := 25) (N := some 50) (v := ?_) (a' := ?_) #[true, true, true, true, true, true, true, true, true, true, true, true, true, true, true, true, true, true, true, true, true, true, true, true, true, true, false, false, false, false] rfl rfl (any_of HT_.out (by kernel_rfl)) (fun _ _ _ h => h) (Or.inl ⟨by rfl, ?_⟩) ?_ ?_
          rotate_left
          · intro w'
            go_simp
            with_reducible rfl
          rotate_left
          · simp only [Act.put, l1_, l2_, l3_, i64_w, i32_w]
            rfl
          refine pure_ (i := 26) (N := some 51) (v := ?_) (a' := ?_) #[true, true, true, true, true, true, true, true, true, true, true, true, true, true, true, true, true, true, true, true, true, true, true, true, true, true, true, false, false, false] rfl rfl (any_of HT_.out (by kernel_rfl)) (fun _ _ _ h => h) (Or.inl ⟨by rfl, ?_⟩) ?_ ?_
          rotate_left
          · intro w'
            go_simp
            with_reducible rfl
          rotate_left
          · simp only [Act.put, l1_, l2_, l3_, i64_w, i32_w]
            rfl
          refine pure_ (i := 27) (N := some 52) (v := ?_) (a' := ?_) #[true, true, true, true, true, true, true, true, true, true, true, true, true, true, true, true, true, true, true, true, true, true, true, true, true, true, true, true, false, false] rfl rfl (any_of HT_.out (by kernel_rfl)) (fun _ _ _ h => h) (Or.inl ⟨by rfl, ?_⟩) ?_ ?_
          rotate_left
          · intro w'
            go_simp
            with_reducible rfl
          rotate_left
          · simp only [Act.put, l1_, l2_, l3_, i64_w, i32_w]
            rfl
          refine pure_ (i := 28) (N := some 53) (v := ?_) (a' := ?_) #[true, true, true, true, true, true, true, true, true, true, true, true, true, true, true, true, true, true, true, true, true, true, true, true, true, true, true, true, true, false] rfl rfl (any_of HT_.out (by kernel_rfl)) (fun _ _ _ h => h) (Or.inl ⟨by rfl, ?_⟩) ?_ ?_
          rotate_left
          · intro w'
            go_simp
            with_reducible rfl
          rotate_left
          · simp only [Act.put, l1_, l2_, l3_, i64_w, i32_w]
            rfl
          refine pure_ (i := 29) (N := some 4) (v := ?_) (a' := ?_) #[true, true, true, true, true, true, true, true, true, true, true, true, true, true, true, true, true, true, true, true, true, true, true, true, true, true, true, true, true, true] rfl rfl (any_of HT_.out (by kernel_rfl)) (fun _ _ _ h => h) (Or.inl ⟨by rfl, ?_⟩) ?_ ?_
          rotate_left
          · intro w'
            go_simp
            with_reducible rfl
          rotate_left
          · simp only [Act.put, l1_, l2_, l3_, i64_w, i32_w]
            rfl
          refine done_ (done_of HT_.out (by kernel_rfl)) ?_
          try go_wp2
          go_ret
          exact ⟨by first | rfl | (simp [errW_none, errW_some] <;> rfl) | (simp [*, errW_none, errW_some] <;> rfl), by repeat (first | (with_reducible first | exact HB.out | apply pA_ | apply pN_ | apply pD_ | refine bs_ ?_ GE208.out | refine bs_ ?_ GE209.out | refine bs_ ?_ GE218.out | refine bs_ ?_ GE219.out) | exact HB.out)⟩
        · replace c19 := Bool.eq_false_iff.mpr c19
          subst c19
          have H1 : (none) = some r := by rw [if_neg (show ¬ (false = true) by decide)] at H; exact H
          clear H
          have H := H1
          clear H1
          exact absurd H (by simp)
      · replace c17 := Bool.eq_false_iff.mpr c17
        subst c17
        have H1 : (none) = some r := by rw [if_neg (show ¬ (false = true) by decide)] at H; exact H
        clear H
        have H := H1
        clear H1
        exact absurd H (by simp)
    · rw [if_neg c15] at H
      have c15b0 : (t221 == t246) = false := by simpa using c15
      (try (have c15b1 : decide (t221 = t246) = false := by simpa using c15))
      (try (have c15b2 : (t221 == t246) = false := by simpa using c15))
      (try (have c15b3 : ¬ (t221 = t246) := by simpa using c15))
      clear c15
      exact absurd H (by simp)
  · rw [if_neg c11] at H
    have c11b0 : (t220 == t237) = false := by simpa using c11
    (try (have c11b1 : decide (t220 = t237) = false := by simpa using c11))
    (try (have c11b2 : (t220 == t237) = false := by simpa using c11))
    (try (have c11b3 : ¬ (t220 = t237) := by simpa using c11))
    clear c11
    exact absurd H (by simp)

end Go.Proofs.Ytjhijklgpgdlaaa.G
