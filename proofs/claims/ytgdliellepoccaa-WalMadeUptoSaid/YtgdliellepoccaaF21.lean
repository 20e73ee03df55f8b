import Derived.Test.YtgdliellepoccaaF20
import Derived.Test.YtgdliellepoccaaPx1
import Derived.Test.YtgdliellepoccaaPx11
import Derived.Maps.OwnOps
import Derived.WideMake
import Derived.Laws.IdiomRangeMap
import Derived.Maps.AppendAt
import Derived.Deep.RegionLaw
import Derived.ArgAppend
import Derived.RangeFuncNested
import Derived.RangeFuncBound
import Derived.RangeFuncCalls
import Derived.RangeFuncLeaves
import Derived.RangeFuncBox
import Derived.RangeFuncFrom
import Derived.OwnWalkIn
import Derived.TacticsInMore
import Derived.LoopNIn
import Derived.LoopIn
import Derived.Deep.Upon
import Derived.Deep.QuietTactic
import Derived.BigQuiet
import Derived.Deep.RegionHeld3
import Derived.Deep.DeepCutAuto
import Derived.Deep.CutBlock
import Derived.Laws.EntriesVeiled
import Derived.StillTailTactics
import Derived.Laws.Tables
import Derived.Laws.CopyOwn
import Derived.IntWalk
import Derived.Test.YtgdliellepoccaaBlocks
import Derived.Laws.CopyOwn
import Derived.Laws.Tables
import Derived.Outline
namespace Go.Proofs.Ytgdliellepoccaa.G
open Go.RowKit Go.Proofs.YtgdliellepoccaaW.PrintWords Go.Proofs.YtgdliellepoccaaW.PrintLast Go.Proofs.YtgdliellepoccaaW.PrintMore
set_option linter.unusedVariables false
set_option linter.unusedSimpArgs false
namespace Wl
set_option maxRecDepth 100000
/-- A disk that no call made: nil, or all zeros. -/
def DeadD (W : World) (v : Value) : Prop := v = .pointer none ∨ ∃ z, v = .pointer (some ⟨z, 0, none⟩) ∧ W.cell? ⟨z, 1, none⟩ = some (.map none)
theorem DeadD.below {W W' : World} {v : Value} (h : DeadD W v) (hB : Below W.heap.size W W') : DeadD W' v := by
  rcases h with h | ⟨z, h, hz⟩
  · exact .inl h
  · refine .inr ⟨z, h, ?_⟩
    have := World.block_lt_of_cell? W ⟨z, 1, none⟩ hz
    unfold World.cell? at hz ⊢
    rw [hB.block z this]
    exact hz
theorem madeD {W : World} {v : Value} (h : DeadD W v) : Calls Try.prog 41 #[v] W fun r w => r = .returned (.bool false) ∧ w = W := by
  have hmm : ∀ w, (binOp .neq 41 (.map none) (.map none)).run Try.prog w = .ok (.bool false) w := fun w => by kernel_rfl
  rcases h with rfl | ⟨z, rfl, hz⟩
  · go_enter Try.func41, Try.ntmps41
    go_wp2
    go_ret
    exact ⟨rfl, rfl⟩
  · go_enter Try.func41, Try.ntmps41
    go_wp2
    go_ret
    exact ⟨rfl, rfl⟩
theorem readyD {W : World} {v : Value} (h : DeadD W v) (x : Value) : Calls Try.prog 44 #[v, x] W fun r w => r = .returned (.int .i64 2) ∧ w = W := by
  have HI := Aside0.mk (madeD h)
  clear h
  go_enter Try.func44, Try.ntmps44
  go_wp2_with (first | (go_at_call 41; refine HI.out.mono ?_; rintro r w1 ⟨rfl, hw⟩; subst hw) | fail)
  go_ret
  exact ⟨rfl, rfl⟩
theorem thereD {W : World} {v : Value} (h : DeadD W v) (s : ByteArray) : Calls Try.prog 42 #[v, .string s, .slice none 0 0] W fun r w => r = .returned (.int .i64 2) ∧ Below W.heap.size W w := by
  have HI := Aside0.mk (fun x => readyD (h.below (below_alloc (Below.refl _ _) (.cells #[.string s] 9))) x)
  clear h
  go_enter Try.func42, Try.ntmps42
  go_wp2_with (first | (go_at_call 44; refine (HI.out _).mono ?_; rintro r w1 ⟨rfl, hw⟩; subst hw) | fail)
  go_ret
  exact ⟨rfl, below_alloc (Below.refl _ _) _⟩
theorem sizeD {W : World} {v : Value} (h : DeadD W v) (s : ByteArray) : Calls Try.prog 18 #[v, .string s] W fun r w => r = .returned (.tuple #[.int .i64 0, .int .i64 2]) ∧ Below W.heap.size W w := by
  have HI := Aside0.mk (thereD h s)
  clear h
  go_enter Try.func18, Try.ntmps18
  go_wp2_with (first | (go_at_call 42; refine HI.out.mono ?_; rintro r w1 ⟨rfl, hb⟩) | fail)
  go_ret2
  exact ⟨rfl, hb⟩
theorem openD {W : World} {v : Value} (h : DeadD W v) (nm : ByteArray) : Calls Try.prog 14 #[v, .string nm] W fun r w => r = .returned (.tuple #[.pointer none, .int .i64 2]) ∧ Below W.heap.size W w := by
  have HI := Aside0.mk (sizeD h ⟨#[97]⟩)
  clear h
  go_enter Try.func14, Try.ntmps14
  go_wp2_with (first | (go_at_call 18; refine HI.out.mono ?_; rintro r w1 ⟨rfl, hb⟩) | fail)
  go_ret2
  exact ⟨rfl, hb⟩
/-- A name that may not be. -/
theorem open0_bad {W : World} {B dp mp : Nat} {room used acts : Int} {la : Value} {n : Nat} (h : Ds W B dp mp room used acts la (.slice none 0 0) [] #[] n) (nm : ByteArray) (k : Nat) (b1 b2 : Bool) (hsz : nm.size ≤ 1099511627776) (h1 : Go.Proofs.Ytgdliellepoccaa.P.wal_isName.f k nm = some b1) (h2 : b1 = true → Go.Proofs.Ytgdliellepoccaa.P.wal_isName.f k (nm ++ ⟨#[46, 110]⟩) = some b2) (hb : (b1 && b2) = false) :
    Calls Try.prog 14 #[.pointer (some ⟨dp, 0, none⟩), .string nm] W fun e w => e = .returned (.tuple #[.pointer none, .int .i64 120]) ∧ Below W.heap.size W w := by
  have HD := Aside0.mk h
  obtain ⟨nm2, hcat⟩ : ∃ nm2, nm ++ ⟨#[46, 110]⟩ = nm2 := ⟨_, rfl⟩
  rw [hcat] at h2
  have H1 := Aside0.mk (fun w => Go.Proofs.Ytgdliellepoccaa.P.wal_isName.calls k nm b1 w h1)
  have hsz2 : nm.size + 2 ≤ 9223372036854775807 := by omega
  rcases b1 with _ | _
  · clear h h1 h2 hb
    go_enter Try.func14, Try.ntmps14
    go_wp2_with (first
      | (go_at_call 18; refine (size0_calls HD.out).mono ?_; rintro e w1 ⟨rfl, hb⟩; (have HB1 := Aside0.mk hb); clear hb)
      | (go_at_call 32; with_reducible refine (H1.out _).mono ?_; rintro e w2 ⟨rfl, hd⟩; (have HB2 := Aside0.mk (HB1.out.trans (below_w (Drawn0.below hd) HB1.out.size))); clear hd)
      | fail)
    go_ret2
    exact ⟨rfl, HB2.out⟩
  · obtain rfl : b2 = false := by simpa using hb
    have h2 := h2 rfl
    have H2 := Aside0.mk (fun w => Go.Proofs.Ytgdliellepoccaa.P.wal_isName.calls k nm2 false w h2)
    clear h h1 h2 hb
    go_enter Try.func14, Try.ntmps14
    go_wp2_with (first
      | (go_at_call 18; refine (size0_calls HD.out).mono ?_; rintro e w1 ⟨rfl, hb⟩; (have HB1 := Aside0.mk hb); clear hb)
      | (go_at_call 32; with_reducible refine (H1.out _).mono ?_; rintro e w2 ⟨rfl, hd⟩; (have HB2 := Aside0.mk (HB1.out.trans (below_w (Drawn0.below hd) HB1.out.size))); clear hd)
      | (go_at_call 32; with_reducible refine (H2.out _).mono ?_; rintro e w3 ⟨rfl, hd⟩; (have HB3 := Aside0.mk (HB2.out.trans (below_w (Drawn0.below hd) HB2.out.size))); clear hd)
      | fail)
    go_ret2
    exact ⟨rfl, HB3.out⟩
end Wl

end Go.Proofs.Ytgdliellepoccaa.G
