/- ConfigSettings: config.Settings answers as the document says, of any settings; for every argument that is together of bulk at most 1048576 (the given second form). -/
import Derived.Test.YtjhijklgpgdlaaaStmtConfigSettings
namespace Go.Proofs.Ytjhijklgpgdlaaa.Pure
open Go.RowKit Go.Proofs.Ytjhijklgpgdlaaa.G Go.Proofs.YtjhijklgpgdlaaaW.PrintWords Go.Proofs.YtjhijklgpgdlaaaW.PrintLast
theorem ConfigSettings : hawserlaw16_ConfigSettings.Pure := by
  intro a0 _ _
  obtain ⟨a, b, c, d, e⟩ := a0
  show hawserlaw16_ConfigSettings.f a b c d e = some true
  unfold hawserlaw16_ConfigSettings.f config_Settings.f hawserlaw16_num.f
  simp only [Option.bind_some]
  have h : hawserref16_Settings.f a b c d e = some (cfgSettings a b c d e) := by
    unfold hawserref16_Settings.f cfgSettings
    repeat' split
    all_goals first | rfl | omega
  rw [h]
  simp
end Go.Proofs.Ytjhijklgpgdlaaa.Pure
