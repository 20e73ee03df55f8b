import Derived.Test.YtbfcejbjljalmaaF9
import Derived.Maps.OwnOps
import Derived.WideMake
import Derived.Laws.IdiomRangeMap
import Derived.Maps.AppendAt
import Derived.Deep.RegionLaw
import Derived.ArgAppend
import Derived.RangeFuncNested
import Derived.RangeFuncBound
import Derived.RangeFuncCalls
import Derived.RangeFuncLeaves
import Derived.RangeFuncBox
import Derived.RangeFuncFrom
import Derived.OwnWalkIn
import Derived.TacticsInMore
import Derived.LoopNIn
import Derived.LoopIn
import Derived.Deep.Upon
import Derived.Deep.QuietTactic
import Derived.BigQuiet
import Derived.Deep.RegionHeld3
import Derived.Deep.DeepCutAuto
import Derived.Deep.CutBlock
import Derived.Laws.EntriesVeiled
import Derived.StillTailTactics
import Derived.Laws.Tables
import Derived.Laws.CopyOwn
import Derived.IntWalk
import Derived.Test.YtbfcejbjljalmaaBlocks
import Derived.Laws.CopyOwn
import Derived.Laws.Tables
import Derived.Outline
namespace Go.Proofs.Ytbfcejbjljalmaa.P
open Go.RowKit Go.Proofs.YtbfcejbjljalmaaW.PrintWords Go.Proofs.YtbfcejbjljalmaaW.PrintLast Go.Proofs.YtbfcejbjljalmaaW.PrintMore
set_option linter.unusedVariables false
set_option linter.unusedSimpArgs false
namespace Wl
open Go.Proofs.Ytbfcejbjljalmaa.Blocks Frm
set_option maxRecDepth 100000
theorem ins0_calls (W : World) : Calls Try.prog 78 #[.slice none 0 0, .int .i64 0, .int .i64 0] W fun e w => e = .returned (.tuple #[]) ∧ w = W := by
  go_enter Try.func78, Try.ntmps78
  go_wp2
  refine wp_loop_rounds 1 ?_
  rw [rounds_succ]
  go_wp2
  go_end0
  exact ⟨rfl, rfl⟩
theorem pdq0_calls (W : World) (x : Value) : Calls Try.prog 73 #[.slice none 0 0, .int .i64 0, .int .i64 0, x] W fun e w => e = .returned (.tuple #[]) ∧ w = W := by
  go_enter Try.func73, Try.ntmps73
  go_wp2
  refine wp_loop_rounds 1 ?_
  rw [rounds_succ]
  go_wp2_with (first | (go_at_call 78; refine (ins0_calls _).mono ?_; rintro e w2 ⟨rfl, hw⟩; subst hw) | fail)
  refine bodyPost_ret (results_none rfl _ _ _) rfl ?_
  exact ⟨rfl, rfl⟩
theorem sort0_calls (W : World) : Calls Try.prog 60 #[.slice none 0 0] W fun e w => e = .returned (.tuple #[]) ∧ w = W := by
  go_enter Try.func60, Try.ntmps60
  go_wp2_with (first | (go_at_call 73; refine (pdq0_calls _ _).mono ?_; rintro e w2 ⟨rfl, hw⟩; subst hw) | go_in)
  go_end0
  exact ⟨rfl, rfl⟩
theorem keys1_calls (W : World) (b mp n : Nat) (f : Value) (hb : W.heap[b]? = some (.cells #[.map (some mp)] 51 (0, 0))) (hm : W.heap[mp]? = some (.map #[] n)) : Calls Try.prog 61 #[f, .pointer (some ⟨b, 0, none⟩)] W fun e w => e = .returned (.tuple #[]) ∧ Below W.heap.size W w := by
  have c0 : W.cell? ⟨b, 0, none⟩ = some (.map (some mp)) := blk_cell hb 0
  have hr := run_range_map (P := Try.prog) W 51 9 29 mp #[] n Try.underlying51 hm
  have hn := fun ty => next_empty W mp n n ty hm
  go_enter Try.func61, Try.ntmps61
  go_wp2
  refine wp_loop_rounds 1 ?_
  rw [rounds_succ]
  go_wp2
  go_end0
  exact ⟨rfl, (Below.refl _ _).alloc (Nat.le_refl _) _⟩
/-- The keys of an empty map: nothing is told. -/
theorem seq_empty (w0 : World) (b mp n : Nat) (hb : w0.heap[b]? = some (.cells #[.map (some mp)] 51 (0, 0))) (hm : w0.heap[mp]? = some (.map #[] n)) :
    SeqStopsK Fence.wide 9 Try.prog 61 #[.pointer (some ⟨b, 0, none⟩)] (fun _ : Unit => #[.string ⟨#[]⟩]) (fun _ _ => True) (fun ys => ys = []) (fun _ => False) 0 w0 := fun l J Jx W hW hJ hJx hY h0 => by
  refine callsIn_wide.2 ((keys1_calls W b mp n _ (blk_below hb hW) ((hW.block mp (Array.getElem?_eq_some_iff.1 hm).1).trans hm)).mono ?_)
  rintro e W' ⟨rfl, hB⟩
  exact ⟨⟨_, rfl⟩, .inl ⟨[], rfl, hJ [] W W' none h0 ⟨hB.os, hB.tape, hB.output, hB.size, fun k hk _ => hB.block k hk⟩ (fun r e => by cases e)⟩⟩
attribute [local go_sem] Oper.semAt_some
set_option maxHeartbeats 2000000 in
theorem seq0_calls (W : World) (b mp n : Nat) (hb : W.heap[b]? = some (.cells #[.map (some mp)] 51 (0, 0))) (hm : W.heap[mp]? = some (.map #[] n)) : Calls Try.prog 72 #[.slice none 0 0, .func (.func 61) #[] #[.pointer (some ⟨b, 0, none⟩)]] W fun e w => e = .returned (.slice none 0 0) ∧ Below W.heap.size W w := by
  have HB1 := Aside0.mk (below_alloc (Below.refl W.heap.size W) (.cells #[.slice none 0 0] 44))
  have HX1 := Aside0.mk (blk_new W (.cells #[.slice none 0 0] 44))
  have HK := Aside0.mk (blk_alloc hb (.cells #[.slice none 0 0] 44))
  have HM := Aside0.mk ((HB1.out.block mp (Array.getElem?_eq_some_iff.1 hm).1).trans hm)
  clear hb hm
  refine (callsIn_wide (n := 10)).1 ?_
  refine callsIn_of_wp_marks Try.func72 rfl trivial ?_ rfl
  simp only [Try.ntmps72, List.size_toArray, List.length_cons, List.length_nil, Nat.reduceAdd, Nat.reduceSub, Array.replicate_succ, Array.replicate_zero, List.push_toArray, List.append_toArray, List.nil_append, List.cons_append]
  gi_wp2
  have hstops := seq_empty _ b mp n HK.out HM.out
  refine wpIn_rangeFunc_ownF rfl (by decide) (gf := 61) (lb := #[.pointer (some ⟨b, 0, none⟩)]) rfl trivial (fun args w => by kernel_rfl) hstops (fun _ _ => trivial) (fun _ _ _ _ _ _ _ _ => trivial) (Below.refl _ _) (fun _ => rfl)
    (fun _ W' => Below (W.heap.size + 1) (W.alloc (.cells #[.slice none 0 0] 44)) W') (fun _ _ _ => False) (fun s X Y row hs hg hr => ?own) (fun _ _ _ _ _ h => h.elim) (Below.refl _ _)
    (fun x => { tmps := #[.slice none 0 0, .func (.func 61) #[] #[.pointer (some ⟨b, 0, none⟩)], .pointer (some ⟨W.heap.size, 0, none⟩), undef, .slice none 0 0, .string ⟨#[]⟩, .func (.func 61) #[] #[.pointer (some ⟨b, 0, none⟩)], .string ⟨#[]⟩, undef, undef, undef, undef, undef], defers := [] }) ?assign ?body ?done ?stop
  case own =>
    refine ⟨hg.os.trans hs.os, hg.tape.trans hs.tape, hg.output.trans hs.output, Nat.le_trans hs.size hg.size, fun k hk => ?_⟩
    have hsz := hs.size
    rw [World.size_alloc] at hsz
    refine (hg.block k (by omega) (fun h => ?_)).trans (hs.block k hk)
    have := (hr k h.symm).1
    rw [World.size_alloc] at this
    omega
  case assign =>
    intro l x W' K hK
    gi_wp2
    exact hK
  case body => intro l pre x W' _ hp; omega
  case stop => intro D c pre W' _ hp; exact hp.elim
  case done =>
    intro D xs W' hD _ hB hK
    rw [World.size_alloc] at hD
    have c0 : W'.cell? ⟨W.heap.size, 0, none⟩ = some (.slice none 0 0) := blk_cell ((hB.block _ (by omega)).trans HX1.out) 0
    have HB' := Aside0.mk (HB1.out.trans (below_w hB (by omega)))
    have HK' := Aside0.mk hK
    clear hB hK
    gi_wp2
    refine ⟨by simp, .inl ⟨_, _, rfl, run_takeDeferred HK'.out, ?_⟩⟩
    refine ⟨.slice none 0 0, by simp [results, Try.f72, go_sem], rfl, ?_⟩
    exact HB'.out.trans (belowK_b (w := W) (Nat.le_refl _) W' D _ _ (by omega) HK'.out rfl rfl)
end Wl

end Go.Proofs.Ytbfcejbjljalmaa.P
