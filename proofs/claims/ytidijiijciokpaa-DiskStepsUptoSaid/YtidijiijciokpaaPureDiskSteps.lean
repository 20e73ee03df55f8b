/- DiskSteps: of any scripts, true (the given second form); printed by wip/gd/mkdiskext.py. -/
import Derived.Test.YtidijiijciokpaaStmtDiskSteps
namespace Go.Proofs.Ytidijiijciokpaa.Pure
open Go.RowKit Go.Proofs.Ytidijiijciokpaa.T Go.Proofs.YtidijiijciokpaaW.PrintWords Go.Proofs.YtidijiijciokpaaW.PrintLast
theorem sy_i64 {n : Int} (h : (Lit.int .i64 n).wf = true) : -9223372036854775808 ≤ n ∧ n ≤ 9223372036854775807 := by
  simp [Lit.wf, IntKind.min, IntKind.max, IntKind.signed, IntKind.bits] at h; omega
theorem sy_mem {α : Type} (g : α → Nat) : ∀ {l : List α} {o : α}, o ∈ l → g o ≤ (l.map g).sum
  | p :: l, o, h => by
    rw [List.map_cons, List.sum_cons]
    cases h with
    | head => omega
    | tail _ h => have := sy_mem g h; omega
theorem sy_wts : ∀ (l : List S47), Go.Proofs.Ytidijiijciokpaa.G.Gd.wts (l.map hawserlaw12_DiskSteps.cv) ≤ (l.map (fun x => ((1 + ((x.f0.f1.size + 1) + ((x.f0.f2.size + 1) + ((x.f0.f3.size + 1) + (1)))) + 1) + (1 + (1)) + 1))).sum
  | [] => Nat.le_refl _
  | o :: l => by
    have ih := sy_wts l
    have h1 : Go.Proofs.Ytidijiijciokpaa.G.Gd.wts ((o :: l).map hawserlaw12_DiskSteps.cv) = (o.f0.f3.size + 2) + Go.Proofs.Ytidijiijciokpaa.G.Gd.wts (l.map hawserlaw12_DiskSteps.cv) := by
      unfold Go.Proofs.Ytidijiijciokpaa.G.Gd.wts
      rw [List.map_cons, List.map_cons, List.sum_cons]
      rfl
    rw [h1, List.map_cons, List.sum_cons]
    omega
theorem sy_ok (l : List S47) (hw : ∀ y ∈ l, (Lit.int .i64 y.f2).wf = true) (hb : (l.map (fun x => ((1 + ((x.f0.f1.size + 1) + ((x.f0.f2.size + 1) + ((x.f0.f3.size + 1) + (1)))) + 1) + (1 + (1)) + 1))).sum ≤ 1048576) : hawserlaw12_DiskSteps.ok l := by
  refine ⟨fun p hp => ?_, by have := sy_wts l; omega⟩
  obtain ⟨o, ho, rfl⟩ := List.mem_map.1 hp
  have h1 := sy_mem (α := S47) (fun x => ((1 + ((x.f0.f1.size + 1) + ((x.f0.f2.size + 1) + ((x.f0.f3.size + 1) + (1)))) + 1) + (1 + (1)) + 1)) ho
  have h2 := sy_i64 (hw o ho)
  exact ⟨by show o.f0.f1.size ≤ _; omega, by show o.f0.f2.size ≤ _; omega, by show o.f0.f3.size ≤ _; omega, h2⟩
theorem DiskSteps : hawserlaw12_DiskSteps.Pure := by
  intro a0 w0 hb
  unfold hawserlaw12_DiskSteps.f
  exact if_pos (sy_ok a0 (fun y hy => (w0 y hy).2.2) (by omega))
end Go.Proofs.Ytidijiijciokpaa.Pure
