import Derived.Test.YtmmefnllagbcfaaProg
import Derived.Test.YtmmefnllagbcfaaWWords
import Derived.Test.YtmmefnllagbcfaaWLast
import Derived.Test.YtmmefnllagbcfaaWTab
import Derived.Test.YtmmefnllagbcfaaWFour
import Derived.Test.YtmmefnllagbcfaaWQPut
import Derived.Test.YtmmefnllagbcfaaWApart
import Derived.Test.YtmmefnllagbcfaaWArr
import Derived.Test.YtmmefnllagbcfaaWZeros
import Derived.Test.YtmmefnllagbcfaaWFoot
import Derived.Test.YtmmefnllagbcfaaWKept
import Derived.Test.YtmmefnllagbcfaaWShare
import Derived.Test.YtmmefnllagbcfaaWN
import Derived.Test.YtmmefnllagbcfaaWNEv
import Derived.Test.YtmmefnllagbcfaaWMore
import Derived.Deep.Upon
import Derived.Deep.QuietTactic
import Derived.Deep.RegionHeld3
import Derived.Deep.DeepCutAuto
import Derived.Deep.CutBlock
import Derived.Laws.EntriesVeiled
import Derived.StillTailTactics
import Derived.Laws.Tables
import Derived.Laws.CopyOwn
import Derived.Great.Walk
import Derived.Great.BuildSlice
import Derived.Deep.MidRow
import Derived.ArgAppend
import Derived.Maps.AppendAt
import Derived.IntWalk
import Derived.Test.YtmmefnllagbcfaaBlocks
import Derived.Laws.CopyOwn
import Derived.Laws.Tables
import Derived.Outline
namespace Go.Proofs.Ytmmefnllagbcfaa.G
open Go.RowKit Go.Proofs.YtmmefnllagbcfaaW.PrintWords Go.Proofs.YtmmefnllagbcfaaW.PrintLast Go.Proofs.YtmmefnllagbcfaaW.PrintMore
set_option linter.unusedVariables false
set_option linter.unusedSimpArgs false
namespace Dsk
set_option maxRecDepth 100000
theorem below_weaken' {B B' : Nat} {a b : World} (h : Below B' a b) (hb : B ≤ B') : Below B a b := ⟨h.os, h.tape, h.output, h.size, fun k hk => h.block k (by omega)⟩
/-- A disk that no call made: nil, or all zeros. -/
def Dead (W : World) (v : Value) : Prop := v = .pointer none ∨ ∃ z, v = .pointer (some ⟨z, 0, none⟩) ∧ W.cell? ⟨z, 1, none⟩ = some (.map none)
theorem Dead.below {W W' : World} {v : Value} (h : Dead W v) (hB : Below W.heap.size W W') : Dead W' v := by
  rcases h with h | ⟨z, h, hz⟩
  · exact .inl h
  · refine .inr ⟨z, h, ?_⟩
    have := World.block_lt_of_cell? W ⟨z, 1, none⟩ hz
    unfold World.cell? at hz ⊢
    rw [hB.block z this]
    exact hz
theorem made_dead {W : World} {v : Value} (h : Dead W v) : Calls Try.prog 46 #[v] W fun r w => r = .returned (.bool false) ∧ w = W := by
  have hmm : ∀ w, (binOp .neq 28 (.map none) (.map none)).run Try.prog w = .ok (.bool false) w := fun w => by kernel_rfl
  rcases h with rfl | ⟨z, rfl, hz⟩
  · go_enter Try.func46, Try.ntmps46
    go_wp2
    go_ret
    exact ⟨rfl, rfl⟩
  · go_enter Try.func46, Try.ntmps46
    go_wp2
    go_ret
    exact ⟨rfl, rfl⟩
theorem ready_dead {W : World} {v : Value} (h : Dead W v) (x : Value) : Calls Try.prog 55 #[v, x] W fun r w => r = .returned (.int .i64 2) ∧ w = W := by
  have HI := Aside0.mk (made_dead h)
  clear h
  go_enter Try.func55, Try.ntmps55
  go_wp2_with (first | (go_at_call 46; refine HI.out.mono ?_; rintro r w1 ⟨rfl, hw⟩; subst hw) | fail)
  go_ret
  exact ⟨rfl, rfl⟩
theorem down_dead {W : World} {v : Value} (h : Dead W v) : Calls Try.prog 18 #[v] W fun r w => r = .returned (.bool false) ∧ w = W := by
  have HI := Aside0.mk (made_dead h)
  clear h
  go_enter Try.func18, Try.ntmps18
  go_wp2_with (first | (go_at_call 46; refine HI.out.mono ?_; rintro r w1 ⟨rfl, hw⟩; subst hw) | fail)
  go_ret
  exact ⟨rfl, rfl⟩
theorem names_dead {W : World} {v : Value} (h : Dead W v) : Calls Try.prog 19 #[v] W fun r w => r = .returned (.slice none 0 0) ∧ w = W := by
  have HI := Aside0.mk (made_dead h)
  clear h
  go_enter Try.func19, Try.ntmps19
  go_wp2_with (first | (go_at_call 46; refine HI.out.mono ?_; rintro r w1 ⟨rfl, hw⟩; subst hw) | fail)
  go_ret
  exact ⟨rfl, rfl⟩
theorem files_dead {W : World} {v : Value} (h : Dead W v) : Calls Try.prog 20 #[v] W fun r w => r = .returned (.slice none 0 0) ∧ w = W := by
  have HI := Aside0.mk (made_dead h)
  clear h
  go_enter Try.func20, Try.ntmps20
  go_wp2_with (first | (go_at_call 46; refine HI.out.mono ?_; rintro r w1 ⟨rfl, hw⟩; subst hw) | fail)
  go_ret
  exact ⟨rfl, rfl⟩
theorem left_dead {W : World} {v : Value} (h : Dead W v) (x : Value) : Calls Try.prog 21 #[v, x] W fun r w => r = .returned (.slice none 0 0) ∧ w = W := by
  have HI := Aside0.mk (made_dead h)
  clear h
  go_enter Try.func21, Try.ntmps21
  go_wp2_with (first | (go_at_call 46; refine HI.out.mono ?_; rintro r w1 ⟨rfl, hw⟩; subst hw) | fail)
  go_ret
  exact ⟨rfl, rfl⟩
theorem free_dead {W : World} {v : Value} (h : Dead W v) : Calls Try.prog 22 #[v] W fun r w => r = .returned (.int .i64 0) ∧ w = W := by
  have HI := Aside0.mk (made_dead h)
  clear h
  go_enter Try.func22, Try.ntmps22
  go_wp2_with (first | (go_at_call 46; refine HI.out.mono ?_; rintro r w1 ⟨rfl, hw⟩; subst hw) | fail)
  go_ret
  exact ⟨rfl, rfl⟩
theorem acts_dead {W : World} {v : Value} (h : Dead W v) : Calls Try.prog 23 #[v] W fun r w => r = .returned (.int .i64 0) ∧ w = W := by
  have HI := Aside0.mk (made_dead h)
  clear h
  go_enter Try.func23, Try.ntmps23
  go_wp2_with (first | (go_at_call 46; refine HI.out.mono ?_; rintro r w1 ⟨rfl, hw⟩; subst hw) | fail)
  go_ret
  exact ⟨rfl, rfl⟩
theorem pending_dead {W : World} {v : Value} (h : Dead W v) : Calls Try.prog 24 #[v] W fun r w => r = .returned (.int .i64 0) ∧ w = W := by
  have HI := Aside0.mk (made_dead h)
  clear h
  go_enter Try.func24, Try.ntmps24
  go_wp2_with (first | (go_at_call 46; refine HI.out.mono ?_; rintro r w1 ⟨rfl, hw⟩; subst hw) | fail)
  go_ret
  exact ⟨rfl, rfl⟩
theorem fail_dead {W : World} {v : Value} (h : Dead W v) (x : Value) : Calls Try.prog 12 #[v, x] W fun r w => r = .returned (.tuple #[]) ∧ w = W := by
  have HI := Aside0.mk (made_dead h)
  clear h
  go_enter Try.func12, Try.ntmps12
  go_wp2_with (first | (go_at_call 46; refine HI.out.mono ?_; rintro r w1 ⟨rfl, hw⟩; subst hw) | fail)
  refine Great.bodyPost_end0 rfl rfl ?_
  exact ⟨rfl, rfl⟩
theorem crash_dead {W : World} {v : Value} (h : Dead W v) (x : Value) : Calls Try.prog 13 #[v, x] W fun r w => r = .returned (.tuple #[]) ∧ w = W := by
  have HI := Aside0.mk (made_dead h)
  clear h
  go_enter Try.func13, Try.ntmps13
  go_wp2_with (first | (go_at_call 46; refine HI.out.mono ?_; rintro r w1 ⟨rfl, hw⟩; subst hw) | fail)
  refine bodyPost_ret (results_none rfl _ _ _) rfl ?_
  exact ⟨rfl, rfl⟩
theorem start_dead {W : World} {v : Value} (h : Dead W v) : Calls Try.prog 14 #[v] W fun r w => r = .returned (.tuple #[]) ∧ w = W := by
  have HI := Aside0.mk (made_dead h)
  clear h
  go_enter Try.func14, Try.ntmps14
  go_wp2_with (first | (go_at_call 46; refine HI.out.mono ?_; rintro r w1 ⟨rfl, hw⟩; subst hw) | fail)
  refine Great.bodyPost_end0 rfl rfl ?_
  exact ⟨rfl, rfl⟩
theorem sync_dead {W : World} {v : Value} (h : Dead W v) : Calls Try.prog 30 #[v] W fun r w => r = .returned (.int .i64 2) ∧ w = W := by
  have HI := Aside0.mk (fun x => ready_dead h x)
  clear h
  go_enter Try.func30, Try.ntmps30
  go_wp2_with (first | (go_at_call 55; refine (HI.out _).mono ?_; rintro r w1 ⟨rfl, hw⟩; subst hw) | fail)
  go_ret
  exact ⟨rfl, rfl⟩
theorem create_dead {W : World} {v : Value} (h : Dead W v) (s : ByteArray) : Calls Try.prog 39 #[v, .string s] W fun r w => r = .returned (.int .i64 2) ∧ Below W.heap.size W w := by
  have HI := Aside0.mk (fun x => ready_dead (h.below (below_alloc (Below.refl _ _) (.cells #[.string s] 9))) x)
  clear h
  go_enter Try.func39, Try.ntmps39
  go_wp2_with (first | (go_at_call 55; refine (HI.out _).mono ?_; rintro r w1 ⟨rfl, hw⟩; subst hw) | fail)
  go_ret
  exact ⟨rfl, below_alloc (Below.refl _ _) _⟩
end Dsk
namespace Dsk
set_option maxRecDepth 100000 in
theorem there_dead {W : World} {v : Value} (h : Dead W v) (s : ByteArray) : Calls Try.prog 49 #[v, .string s, .slice none 0 0] W fun r w => r = .returned (.int .i64 2) ∧ Below W.heap.size W w := by
  have HI := Aside0.mk (fun x => ready_dead (h.below (below_alloc (Below.refl _ _) (.cells #[.string s] 9))) x)
  clear h
  go_enter Try.func49, Try.ntmps49
  go_wp2_with (first | (go_at_call 55; refine (HI.out _).mono ?_; rintro r w1 ⟨rfl, hw⟩; subst hw) | fail)
  go_ret
  exact ⟨rfl, below_alloc (Below.refl _ _) _⟩
end Dsk

end Go.Proofs.Ytmmefnllagbcfaa.G
