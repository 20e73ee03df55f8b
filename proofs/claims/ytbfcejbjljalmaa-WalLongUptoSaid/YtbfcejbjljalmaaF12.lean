import Derived.Test.YtbfcejbjljalmaaF11
import Derived.Test.YtbfcejbjljalmaaPx1
import Derived.Test.YtbfcejbjljalmaaPx10
import Derived.Maps.OwnOps
import Derived.WideMake
import Derived.Laws.IdiomRangeMap
import Derived.Maps.AppendAt
import Derived.Deep.RegionLaw
import Derived.ArgAppend
import Derived.RangeFuncNested
import Derived.RangeFuncBound
import Derived.RangeFuncCalls
import Derived.RangeFuncLeaves
import Derived.RangeFuncBox
import Derived.RangeFuncFrom
import Derived.OwnWalkIn
import Derived.TacticsInMore
import Derived.LoopNIn
import Derived.LoopIn
import Derived.Deep.Upon
import Derived.Deep.QuietTactic
import Derived.BigQuiet
import Derived.Deep.RegionHeld3
import Derived.Deep.DeepCutAuto
import Derived.Deep.CutBlock
import Derived.Laws.EntriesVeiled
import Derived.StillTailTactics
import Derived.Laws.Tables
import Derived.Laws.CopyOwn
import Derived.IntWalk
import Derived.Test.YtbfcejbjljalmaaBlocks
import Derived.Laws.CopyOwn
import Derived.Laws.Tables
import Derived.Outline
namespace Go.Proofs.Ytbfcejbjljalmaa.P
open Go.RowKit Go.Proofs.YtbfcejbjljalmaaW.PrintWords Go.Proofs.YtbfcejbjljalmaaW.PrintLast Go.Proofs.YtbfcejbjljalmaaW.PrintMore
set_option linter.unusedVariables false
set_option linter.unusedSimpArgs false
namespace Wl
open Go.Proofs.Ytbfcejbjljalmaa.Blocks Frm
set_option maxRecDepth 100000
/-- A log's cells. -/
def lcells (dp : Nat) (nm : ByteArray) (there : Bool) (rv : Value) (lasting : Int) : Array Value := #[.pointer (some ⟨dp, 0, none⟩), .string nm, .bool there, rv, .int .i64 lasting, .int .i64 0, .bool false]
theorem contains0 (nm : ByteArray) (w : World) : Calls Try.prog 26 #[.slice none 0 0, .string nm] w fun e w' => e = .returned (.bool false) ∧ Drawn0 w w' :=
  Go.Proofs.Ytbfcejbjljalmaa.P.slices_Contains_string_string.calls 1 none 0 [] nm false w (Kd.C_nil _ _) (Nat.le_refl _) rfl
set_option maxHeartbeats 2000000 in
/-- A log in a disk without a file. -/
theorem open0_calls {W : World} {B dp mp : Nat} {room used acts : Int} {la : Value} {n : Nat} (h : Ds W B dp mp room used acts la (.slice none 0 0) [] #[] n) (nm : ByteArray) (k : Nat) (hsz : nm.size ≤ 1099511627776) (h1 : Go.Proofs.Ytbfcejbjljalmaa.P.wal_isName.f k nm = some true) (h2 : Go.Proofs.Ytbfcejbjljalmaa.P.wal_isName.f k (nm ++ ⟨#[46, 110]⟩) = some true) :
    Calls Try.prog 6 #[.pointer (some ⟨dp, 0, none⟩), .string nm] W fun e w => ∃ lp, e = .returned (.tuple #[.pointer (some ⟨lp, 0, none⟩), .int .i64 0]) ∧ w.heap[lp]? = some (.cells (lcells dp nm false (.slice none 0 0) 0) 63 (0, 0)) ∧ W.heap.size ≤ lp ∧ Below W.heap.size W w := by
  have HD := Aside0.mk h
  obtain ⟨nm2, hcat⟩ : ∃ nm2, nm ++ ⟨#[46, 110]⟩ = nm2 := ⟨_, rfl⟩
  rw [hcat] at h2
  have H1 := Aside0.mk (fun w => Go.Proofs.Ytbfcejbjljalmaa.P.wal_isName.calls k nm true w h1)
  have H2 := Aside0.mk (fun w => Go.Proofs.Ytbfcejbjljalmaa.P.wal_isName.calls k nm2 true w h2)
  have hsz2 : nm.size + 2 ≤ 9223372036854775807 := by omega
  clear h h1 h2
  go_enter Try.func6, Try.ntmps6
  go_upto_region 6 with (first
    | (go_at_call 23; refine (size0_calls HD.out).mono ?_; rintro e w1 ⟨rfl, hb⟩; (have HB1 := Aside0.mk hb); clear hb)
    | (go_at_call 24; with_reducible refine (H1.out _).mono ?_; rintro e w2 ⟨rfl, hd⟩; (have HB2 := Aside0.mk (HB1.out.trans (below_w (Drawn0.below hd) HB1.out.size))); clear hd)
    | (go_at_call 24; with_reducible refine (H2.out _).mono ?_; rintro e w3 ⟨rfl, hd⟩; (have HB3 := Aside0.mk (HB2.out.trans (below_w (Drawn0.below hd) HB2.out.size))); clear hd)
    | fail)
  have HD3 := Aside0.mk (HD.out.below HB3.out)
  have HL := Aside0.mk (blk_new w3 (.cells (lcells dp nm false (.slice none 0 0) 0) 63))
  have HB4 := Aside0.mk (HB3.out.alloc HB3.out.size (.cells (lcells dp nm false (.slice none 0 0) 0) 63))
  have HD4 := Aside0.mk (HD3.out.below (below_alloc (Below.refl _ _) (.cells (lcells dp nm false (.slice none 0 0) 0) 63)))
  have HLE := Aside0.mk HB3.out.size
  clear HB3 HD3
  go_upto_region 7 with fail
  unfold lcells at HL HB4 HD4
  generalize w3.alloc (.cells _ 63) = w4 at HL HB4 HD4 ⊢
  generalize w3.heap.size = lp at HL HLE ⊢
  go_upto_region 17 with (first
    | (go_at_call 25; refine (names0_calls HD4.out).mono ?_; rintro e w5 ⟨rfl, hb⟩; (have HL5 := Aside0.mk (blk_below HL.out hb)); (have HB5 := Aside0.mk (HB4.out.trans (below_w hb HB4.out.size))); (have HD5 := Aside0.mk (HD4.out.below hb)); clear hb)
    | (go_at_call 26; (with_reducible refine (contains0 nm2 _).mono ?_); rintro e w6 ⟨rfl, hd⟩; (have HL6 := Aside0.mk (blk_below HL5.out (Drawn0.below hd))); (have HB6 := Aside0.mk (HB5.out.trans (below_w (Drawn0.below hd) HB5.out.size))); (have HD6 := Aside0.mk (HD5.out.below (Drawn0.below hd))); clear hd)
    | (go_at_call 26; (with_reducible refine (contains0 nm _).mono ?_); rintro e w7 ⟨rfl, hd⟩; (have HL7 := Aside0.mk (blk_below HL6.out (Drawn0.below hd))); (have HB7 := Aside0.mk (HB6.out.trans (below_w (Drawn0.below hd) HB6.out.size))); (have HD7 := Aside0.mk (HD6.out.below (Drawn0.below hd))); clear hd)
    | fail)
  have l5 : w7.cell? ⟨lp, 5, none⟩ = some (.int .i64 0) := blk_cell HL7.out 5
  have l3 : w7.cell? ⟨lp, 3, none⟩ = some (.slice none 0 0) := blk_cell HL7.out 3
  have l4 : w7.cell? ⟨lp, 4, none⟩ = some (.int .i64 0) := blk_cell HL7.out 4
  have f4 : w7.frozen? ⟨lp, 4, none⟩ = false := blk_frozen HL7.out 4
  go_wp2_with (first
    | (go_at_call 29; refine (pending0_calls HD7.out).mono ?_; rintro e w8 ⟨rfl, hw⟩; subst hw)
    | fail)
  go_ret2
  exact ⟨lp, rfl, blk_put HL7.out 4 _ rfl, HLE.out, HB7.out.setCell (p := ⟨lp, 4, none⟩) HLE.out _⟩
end Wl

end Go.Proofs.Ytbfcejbjljalmaa.P
