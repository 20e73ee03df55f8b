/- DiskRuns: of any room, files and script, true (the given second form). -/
import Derived.Test.YtidijiijciokpaaStmtDiskRuns
namespace Go.Proofs.Ytidijiijciokpaa.Pure
open Go.RowKit Go.Proofs.Ytidijiijciokpaa.V Go.Proofs.YtidijiijciokpaaW.PrintWords Go.Proofs.YtidijiijciokpaaW.PrintLast
theorem sy_i64 {n : Int} (h : (Lit.int .i64 n).wf = true) : -9223372036854775808 ≤ n ∧ n ≤ 9223372036854775807 := by
  simp [Lit.wf, IntKind.min, IntKind.max, IntKind.signed, IntKind.bits] at h; omega
theorem sy_mem {α : Type} (g : α → Nat) : ∀ {l : List α} {o : α}, o ∈ l → g o ≤ (l.map g).sum
  | p :: l, o, h => by
    rw [List.map_cons, List.sum_cons]
    cases h with
    | head => omega
    | tail _ h => have := sy_mem g h; omega
theorem sy_wts : ∀ (l : List S47), Go.Proofs.Ytidijiijciokpaa.G.Gd.wts (l.map hawserlaw12_DiskRuns.cv) ≤ (l.map (fun x => ((1 + ((x.f0.f1.size + 1) + ((x.f0.f2.size + 1) + ((x.f0.f3.size + 1) + (1)))) + 1) + (1 + (1)) + 1))).sum
  | [] => Nat.le_refl _
  | o :: l => by
    have ih := sy_wts l
    have h1 : Go.Proofs.Ytidijiijciokpaa.G.Gd.wts ((o :: l).map hawserlaw12_DiskRuns.cv) = (o.f0.f3.size + 2) + Go.Proofs.Ytidijiijciokpaa.G.Gd.wts (l.map hawserlaw12_DiskRuns.cv) := by
      unfold Go.Proofs.Ytidijiijciokpaa.G.Gd.wts
      rw [List.map_cons, List.map_cons, List.sum_cons]
      rfl
    rw [h1, List.map_cons, List.sum_cons]
    omega
theorem sy_ok (l : List S47) (hw : ∀ y ∈ l, (Lit.int .i64 y.f2).wf = true) (hb : (l.map (fun x => ((1 + ((x.f0.f1.size + 1) + ((x.f0.f2.size + 1) + ((x.f0.f3.size + 1) + (1)))) + 1) + (1 + (1)) + 1))).sum ≤ 1048576) : hawserlaw12_DiskRuns.ok l := by
  refine ⟨fun p hp => ?_, by have := sy_wts l; omega⟩
  obtain ⟨o, ho, rfl⟩ := List.mem_map.1 hp
  have h1 := sy_mem (α := S47) (fun x => ((1 + ((x.f0.f1.size + 1) + ((x.f0.f2.size + 1) + ((x.f0.f3.size + 1) + (1)))) + 1) + (1 + (1)) + 1)) ho
  have h2 := sy_i64 (hw o ho)
  exact ⟨by show o.f0.f1.size ≤ _; omega, by show o.f0.f2.size ≤ _; omega, by show o.f0.f3.size ≤ _; omega, h2⟩
theorem sy_u8 {n : Int} (h : (Lit.int .u8 n).wf = true) : 0 ≤ n ∧ n < 256 := by
  simp [Lit.wf, IntKind.min, IntKind.max, IntKind.signed, IntKind.bits] at h; omega
theorem sy_one (l : List Int) : (l.map (fun _ => 1)).sum = l.length := by
  induction l with
  | nil => rfl
  | cons a l ih => rw [List.map_cons, List.sum_cons, List.length_cons, ih]; omega
theorem sy_flen (l : List S33) : l.length ≤ (l.map (fun x => ((x.f0.size + 1) + (((x.f1.map (fun _ => 1)).sum + 1)) + 1))).sum := by
  induction l with
  | nil => exact Nat.le_refl _
  | cons a l ih => rw [List.map_cons, List.sum_cons, List.length_cons]; omega
theorem sy_okL (l : List S33) (hw : ∀ y ∈ l, ∀ z ∈ y.f1, (Lit.int .u8 z).wf = true) (hb : (l.map (fun x => ((x.f0.size + 1) + (((x.f1.map (fun _ => 1)).sum + 1)) + 1))).sum ≤ 1048576) : hawserlaw12_DiskRuns.okL l := by
  refine ⟨fun x hx n hn => sy_u8 (hw x hx n hn), fun x hx => ?_, ?_⟩
  · have h1 := sy_mem (α := S33) (fun x => ((x.f0.size + 1) + (((x.f1.map (fun _ => 1)).sum + 1)) + 1)) hx
    try dsimp only at h1
    rw [sy_one] at h1
    exact ⟨by omega, by omega⟩
  · have := sy_flen l
    omega
theorem DiskRuns : hawserlaw12_DiskRuns.Pure := by
  intro a0 a1 a2 w0 w1 w2 hb
  unfold hawserlaw12_DiskRuns.f
  exact if_pos ⟨sy_okL a1 (fun y hy => (w1 y hy).2) (by omega), sy_ok a2 (fun y hy => (w2 y hy).2.2) (by omega)⟩
end Go.Proofs.Ytidijiijciokpaa.Pure
