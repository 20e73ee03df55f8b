import Derived.Test.YtmmefnllagbcfaaD2
import Derived.Deep.Upon
import Derived.Deep.QuietTactic
import Derived.Deep.RegionHeld3
import Derived.Deep.DeepCutAuto
import Derived.Deep.CutBlock
import Derived.Laws.EntriesVeiled
import Derived.StillTailTactics
import Derived.Laws.Tables
import Derived.Laws.CopyOwn
import Derived.Great.Walk
import Derived.Great.BuildSlice
import Derived.Deep.MidRow
import Derived.ArgAppend
import Derived.Maps.AppendAt
import Derived.IntWalk
import Derived.Test.YtmmefnllagbcfaaBlocks
import Derived.Laws.CopyOwn
import Derived.Laws.Tables
import Derived.Outline
namespace Go.Proofs.Ytmmefnllagbcfaa.G
open Go.RowKit Go.Proofs.YtmmefnllagbcfaaW.PrintWords Go.Proofs.YtmmefnllagbcfaaW.PrintLast Go.Proofs.YtmmefnllagbcfaaW.PrintMore
set_option linter.unusedVariables false
set_option linter.unusedSimpArgs false
namespace Dsk
open Go.Proofs.Ytmmefnllagbcfaa.Blocks
set_option maxRecDepth 100000
def marks : List Int := [171, 172, 173, 174, 175, 176, 177, 178]
theorem info_u8 : (Try.prog.info? 5).map (fun i => (i.zero, i.size, i.bytes)) = some (some (.int .u8 0), 1, 1) := by kernel_rfl
theorem marksC (w1 : World) : Kd.C (Kd.int .u8) (w1.alloc (.cells #[.int .u8 171, .int .u8 172, .int .u8 173, .int .u8 174, .int .u8 175, .int .u8 176, .int .u8 177, .int .u8 178] 5)) (some ⟨w1.heap.size, 0, none⟩) 8 marks :=
  C_of_blk (k := .u8) (L := [171, 172, 173, 174, 175, 176, 177, 178]) (o := 0) (n := 8) (blk_new w1 _) (by decide) (by decide)
theorem has_addr {e base : Nat} {ok : Nat → Prop} {w : World} {v : Value} {xs : List Int} (h : Kd.R (Kd.int .u8) e w base ok v xs) (hn : 0 < xs.length) : ∃ (g : Nat) (c : Nat), v = .slice (some ⟨g, 0, none⟩) xs.length c := by
  obtain ⟨g, c, hv, _⟩ := Kd.R_form h hn
  exact ⟨g, c, hv⟩
set_option maxHeartbeats 1600000 in
theorem roomy_calls (w : World) (A : Option Addr) (c : Nat) (l : List Int) (hr : Kd.C (Kd.int .u8) w A l.length l) (hn : l.length ≤ 1099511627776) : Calls Try.prog 40 #[.slice A l.length c] w fun e w' => ∃ g c', e = .returned (.slice (some ⟨g, 0, none⟩) l.length c') ∧ Kd.R (Kd.int .u8) 5 w' w.heap.size (fun k => w.heap.size ≤ k) (.slice (some ⟨g, 0, none⟩) (l.length + 8) c') (l ++ marks) ∧ Below w.heap.size w w' := by
  have HR0 := Aside0.mk hr
  have HB := Aside0.mk (Below.refl w.heap.size w)
  clear hr
  go_enter Try.func40, Try.ntmps40
  go_upto_region 2 with (first | (refine Kd.R_append_rows (Kd.int .u8) (w0 := w) w.heap.size rfl (.const (.slice none 0 0)) (.tmp 4) 39 5 (.int .u8 0) 1 rfl Try.underlying39 info_u8 rfl (by decide) (by omega) (.slice none 0 0) [] l _ _ _ (fun k_ => w.heap.size ≤ k_) (fun _ => False) rfl rfl ?aO ?aR (fun _ _ h => h) (fun _ hk => hk.elim) ?aF ?aB ?aS ?aL ?_; (case aO => exact Kd.R_nil _ _ _ _ _); (case aR => exact HR0.out); (case aF => exact fun k_ hk => hk); (case aB => exact HB.out); (case aS => exact Nat.le_refl _); (case aL => show (0 + l.length) * 1 ≤ 140737488355328; omega); intro v1 w1 ho1 hb1 hg1 hat1; have n0 := Aside0.mk (show Kd.R (Kd.int .u8) 5 w1 w.heap.size (fun k_ => w.heap.size ≤ k_) v1 l from ho1); have n1 := Aside0.mk hb1; clear HB ho1 hb1 hg1 hat1; obtain ⟨Ao, co, eo⟩ := Kd.R_slice n0.out; subst eo) | (refine Kd.R_append_rows (Kd.int .u8) (w0 := w) w.heap.size rfl (.tmp 5) (.tmp 6) 39 5 (.int .u8 0) 1 rfl Try.underlying39 info_u8 rfl (by decide) (by omega) (.slice Ao l.length co) l marks _ _ _ (fun k_ => w.heap.size ≤ k_) (fun _ => False) rfl rfl ?bO ?bR (fun _ _ h => h) (fun _ hk => hk.elim) ?bF ?bB ?bS ?bL ?_; (case bO => exact Kd.R_alloc n0.out _); (case bR => exact marksC _); (case bF => exact fun k_ hk => Nat.le_trans (below_size (below_alloc n1.out _)) hk); (case bB => exact below_alloc n1.out _); (case bS => exact below_size (below_alloc n1.out _)); (case bL => show (l.length + 8) * 1 ≤ 140737488355328; omega); intro v2 w2 ho2 hb2 hg2 hat2; have m0 := Aside0.mk ho2; have m1 := Aside0.mk hb2; clear n0 n1 ho2 hb2 hg2 hat2; obtain ⟨Ad, cd, ed⟩ := has_addr m0.out (by simp [marks]); subst ed))
  have hle : l.length + 8 ≤ cd := by have := (Kd.R_reads' m0.out).2.1; simpa [marks] using this
  have hle1 : l.length ≤ cd := by omega
  have hle2 : (l.length : Int) ≤ (cd : Int) := by omega
  go_wp2
  go_ret
  exact ⟨Ad, cd, rfl, by have h3 := m0.out; rwa [show (l ++ marks).length = l.length + 8 by simp [marks]] at h3, m1.out⟩
end Dsk

end Go.Proofs.Ytmmefnllagbcfaa.G
