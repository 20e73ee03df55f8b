/- DiskNone: a disk that no call made, whatever is asked of it; the argument is of bulk at most 1048576 (the given second form). -/
import Derived.Test.YtmmefnllagbcfaaStmtDiskNone
namespace Go.Proofs.Ytmmefnllagbcfaa.Pure
open Go.RowKit Go.Proofs.Ytmmefnllagbcfaa.G Go.Proofs.YtmmefnllagbcfaaW.PrintWords Go.Proofs.YtmmefnllagbcfaaW.PrintLast
theorem DiskNone : hawserlaw12_DiskNone.Pure := by
  intro a0 _ hb
  obtain ⟨⟨kd, nm, to_, dt, sz⟩, k2, n⟩ := a0
  replace hb : (1 + ((nm.size + 1) + ((to_.size + 1) + ((dt.size + 1) + 1))) + 1) + (1 + 1) + 1 ≤ 1048576 := hb
  show hawserlaw12_DiskNone.f kd nm to_ dt sz k2 n = some true
  unfold hawserlaw12_DiskNone.f
  rw [if_pos (by omega)]
end Go.Proofs.Ytmmefnllagbcfaa.Pure
