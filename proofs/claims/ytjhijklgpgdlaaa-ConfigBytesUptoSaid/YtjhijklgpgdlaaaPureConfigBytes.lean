/- ConfigBytes: Encode writes what the document says, of any configuration, which stays; for every argument that is together of bulk at most 1048576 (the given second form). -/
import Derived.Test.YtjhijklgpgdlaaaStmtConfigBytes
import Derived.Test.YtjhijklgpgdlaaaCfgEnc
namespace Go.Proofs.Ytjhijklgpgdlaaa.Pure
open Go.RowKit Go.Proofs.Ytjhijklgpgdlaaa.G Go.Proofs.Ytjhijklgpgdlaaa.CfgMath Go.Proofs.Ytjhijklgpgdlaaa.CfgEnc Go.Proofs.YtjhijklgpgdlaaaW.PrintWords Go.Proofs.YtjhijklgpgdlaaaW.PrintLast Go.Proofs.YtjhijklgpgdlaaaW.PrintMore
theorem ConfigBytes : hawserlaw16_ConfigBytes.Pure := by
  intro a0 _ hb
  rw [sum_ones] at hb
  obtain ⟨e, l⟩ := a0
  replace hb : 1 + (l.length + 1) + 1 ≤ 1048576 := hb
  show ∃ k, hawserlaw16_ConfigBytes.f k e l = some true
  have hl : l.length ≤ 1099511627776 := by omega
  obtain ⟨q, hq⟩ : ∃ q, q = (if chk e l = 0 then (cfgBytes e l, (0 : Int)) else ([], chk e l)) := ⟨_, rfl⟩
  have h1 := encode_ev e l
  have h2 := rencode_ev e l
  rw [← hq] at h1 h2
  have h3 := encode_ev 4 [2, 5, 1]
  have e3 : (if chk 4 [2, 5, 1] = 0 then (cfgBytes 4 [2, 5, 1], (0 : Int)) else ([], chk 4 [2, 5, 1])) = ([4, 3, 2, 5, 1], 0) := by
    rw [if_pos (by decide)]
    unfold cfgBytes
    rw [LebMath.lput_small (by decide)]
    rfl
  rw [e3] at h3
  have : Ev (fun k => hawserlaw16_ConfigBytes.f k e l) true := by
    refine Ev.congr (f := fun k => (config_Encode.f k e l).bind fun bt480 => ((hawserref16_Encode.f k e l).bind fun bt488 => ((config_Encode.f k 4 (([2, 5, 1] : List Int))).bind fun bt495 => (if (strOfNums bt480.1).toList = (strOfNums bt488.1).toList then (if bt480.2 = bt488.2 then ((hawserlaw16_kept.f k e l e l).bind fun t500 => (if t500 = true then (if bt495.2 = 0 then (some ((strOfNums bt495.1).toList == ([4, 3, 2, 5, 1] : List UInt8))) else (none)) else (none))) else (none)) else (none))))) (fun k => ?_) ?_
    · unfold hawserlaw16_ConfigBytes.f hawserlaw16_plain.f hawserlaw16_num.f
      rw [twin_f e l hl]
      simp only [Option.bind_some]
    · refine Ev.bind h1 (Ev.bind h2 (Ev.bind h3 ?_))
      refine Ev.congr (fun k => ?_) (Ev.bind (f := fun _ t => if t = true then some true else none) (kept_ev e l hl) (Ev.now true))
      rw [if_pos rfl, if_pos rfl]
      congr 1
      funext t
      split
      · decide +kernel
      · rfl
  exact this.rounds
end Go.Proofs.Ytjhijklgpgdlaaa.Pure
