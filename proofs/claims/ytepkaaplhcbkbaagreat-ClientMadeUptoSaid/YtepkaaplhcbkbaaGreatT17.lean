import Derived.Test.YtepkaaplhcbkbaaGreatT16
import Derived.Test.YtepkaaplhcbkbaaGreatGx4
import Derived.Test.YtepkaaplhcbkbaaGreatGx6
import Derived.Deep.Upon
import Derived.Deep.QuietTactic
import Derived.BigQuiet
import Derived.Deep.RegionHeld3
import Derived.Deep.DeepCutAuto
import Derived.Deep.CutBlock
import Derived.Laws.EntriesVeiled
import Derived.StillTailTactics
import Derived.Laws.Tables
import Derived.Laws.CopyOwn
import Derived.Great.Walk
import Derived.Great.BuildSlice
import Derived.Deep.MidRow
import Derived.IntWalk
import Derived.Test.YtepkaaplhcbkbaaGreatBlocks
import Derived.Laws.CopyOwn
import Derived.Laws.Tables
import Derived.Outline
namespace Go.Proofs.YtepkaaplhcbkbaaGreat.G
open Go.RowKit Go.Proofs.YtepkaaplhcbkbaaGreatW.PrintWords Go.Proofs.YtepkaaplhcbkbaaGreatW.PrintLast Go.Proofs.YtepkaaplhcbkbaaGreatW.PrintMore
set_option linter.unusedVariables false
set_option linter.unusedSimpArgs false
namespace Cli
open Msg
set_option maxRecDepth 100000
theorem results_cell_slot {P : Program} {fn : Func} {p s : Tmp} {ty : TypeId} (h : fn.results = #[.cell p ty, .tmp s]) (tmps : Array Value) (w : World) (g : Nat) (t : TypeId) (cs : Array Value) (fr : Nat × Nat) (d : TypeDesc)
    (hp : tmps.getD p undef = .pointer (some ⟨g, 0, none⟩)) (hg : w.heap[g]? = some (.cells cs t fr))
    (hu : P.underlying ty = some d) (hd : (match d with | .struct _ | .array _ _ => true | _ => false) = true) (hi : (P.info? ty).map (·.size) = some cs.size) :
    (results fn tmps).run P w = .ok (.tuple #[.agg cs, tmps.getD s undef]) w := by
  have hp' : tmps[p]?.getD undef = .pointer (some ⟨g, 0, none⟩) := by simpa using hp
  simp [results, h, hp', asAddr, run_loadVar_row w g t ty cs fr d hg hu hd hi]
theorem last_dead {W : World} {v : Value} (h : Dead W v) : Calls Tryz.prog 30 #[v] W fun r w => r = .returned (.tuple #[.agg zero16, .bool false]) ∧ Below W.heap.size W w := by
  have HI := Aside0.mk (fun w (hw : w = W.alloc (.cells zero16 77)) => is_dead (hw ▸ h.below (below_alloc (Below.refl _ _) _) : Dead w v))
  have HZ := Aside0.mk (blk_new W (.cells zero16 77))
  have HIC : Aside0 ((Tryz.prog.info? 77).map (·.size) = some 16) := ⟨by kernel_rfl⟩
  have HU := Aside0.mk Tryz.underlying77
  clear h
  go_enter Tryz.func30, Tryz.ntmps30
  go_wp2_with (first | (go_at_call 70; refine (HI.out _ rfl).mono ?_; rintro r w1 ⟨rfl, hw⟩; subst hw) | ((with_reducible refine wpList_store_row rfl 77 (.tmp 2) (.tmp 14) rfl W.heap.size zero16 ?d1 ?d2 77 zero16 ?c1 ?c2 ?c3 ?c4 ?_); (case d1 => rfl); (case d2 => rfl); (case c1 => exact HZ.out); (case c2 => exact HIC.out); (case c3 => rfl); (case c4 => kernel_rfl)) | fail)
  refine bodyPost_ret (results_cell_slot (P := Tryz.prog) rfl _ _ W.heap.size 77 zero16 (0, 0) _ rfl (setRow_heap _ _ _ _ 77 (0, 0) HZ.out) HU.out rfl HIC.out) rfl ?_
  exact ⟨rfl, below_setRow (below_alloc (Below.refl _ _) _) (Nat.le_refl _) _⟩
/-- A list's cells, from an array's. -/
theorem range_drop {W : World} {b : Nat} {t : TypeId} {cs : Array Value} (h : W.heap[b]? = some (.cells cs t (0, 0))) (o : Nat) (n : Nat) : W.rangeAt b o ((cs.toList.drop o).take n) := by
  intro j v hv
  rw [blk_cell h (o + j)]
  have h1 : ((cs.toList.drop o).take n)[j]? = some v := hv
  rw [List.getElem?_take] at h1
  split at h1
  · rw [List.getElem?_drop] at h1
    simpa using h1
  · cases h1
end Cli

end Go.Proofs.YtepkaaplhcbkbaaGreat.G
