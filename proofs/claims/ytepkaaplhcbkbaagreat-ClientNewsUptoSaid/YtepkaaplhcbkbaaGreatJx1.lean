-- Written for this claim by a program of this session (wip/xprint.py), by means of the kit's print. Not trusted: Lean checks it.
import Derived.Test.YtepkaaplhcbkbaaGreatJx0
namespace Go.Proofs.YtepkaaplhcbkbaaGreat.J
open Go.RowKit Go.Proofs.YtepkaaplhcbkbaaGreatW.PrintWords Go.Proofs.YtepkaaplhcbkbaaGreatW.PrintLast Go.Proofs.YtepkaaplhcbkbaaGreatW.PrintMore
attribute [local go_sem] max2_int min2_int max_two min_two max_three min_three max_four min_four   -- for this text's walks alone
set_option linter.unusedVariables false
set_option linter.unusedSimpArgs false

-- NOT PRINTED: function 70 (client_Client_is)

-- NOT PRINTED: function 32 (client_Client_Waits)

-- NOT PRINTED: function 65 (client_Client_free)

-- NOT PRINTED: function 133 (delta_isUser)

-- NOT PRINTED: function 134 (delta_within)

-- NOT PRINTED: function 66 (delta_Check)

-- NOT PRINTED: function 67 (client_Client_out)

-- NOT PRINTED: function 138 (config_places)

-- NOT PRINTED: function 74 (config_Check)

-- NOT PRINTED: function 135 (config_at)

-- NOT PRINTED: function 68 (config_Head)

-- NOT PRINTED: function 27 (client_Client_Submit)

-- NOT PRINTED: function 62 (slices_Equal_int_int)

-- NOT PRINTED: function 63 (api_Digest)

-- NOT PRINTED: function 130 (api_Piece)

-- NOT PRINTED: function 64 (message_sameChunk)

-- NOT PRINTED: function 25 (message_Alike)

-- NOT PRINTED: function 46 (message_lines)

-- NOT PRINTED: function 107 (message_placeOf)

-- NOT PRINTED: function 229 (message_way_229)

-- NOT PRINTED: function 108 (message_way_108)

-- NOT PRINTED: function 48 (message_line_goes)

-- NOT PRINTED: function 18 (message_Check)

-- NOT PRINTED: function 136 (slices_Clone_int_int)

-- NOT PRINTED: function 71 (client_own)

-- NOT PRINTED: function 72 (client_Client_answered)

-- NOT PRINTED: function 29 (client_Client_Take)

-- NOT PRINTED: function 36 (client_New)

-- NOT PRINTED: function 37 (hawserlaw23_one)

-- NOT PRINTED: function 26 (hawserlaw23_lives)

-- NOT PRINTED: function 38 (hawserref21_CheckConfig)

-- NOT PRINTED: function 39 (hawserref23_New)

-- NOT PRINTED: function 30 (client_Client_Last)

-- NOT PRINTED: function 33 (client_Client_Epoch)

-- NOT PRINTED: function 34 (client_Client_Config)

-- NOT PRINTED: function 139 (hawserref21_Same)

-- NOT PRINTED: function 75 (hawserlaw23_sameConfig)

-- NOT PRINTED: function 40 (hawserlaw23_looked)

/-! ### hawserlaw23_ClientNews: function 10 -/
def hawserlaw23_ClientNews.f (k : Nat) (id e : Int) (l : List Int) : Option Bool := if l.length ≤ 1048576 then (Go.Proofs.YtepkaaplhcbkbaaGreat.G.config_Check.f e l).bind fun a => (Go.Proofs.YtepkaaplhcbkbaaGreat.H.hawserref21_CheckConfig.f k e l).bind fun b => (Go.Proofs.YtepkaaplhcbkbaaGreat.H.hawserlaw23_sameConfig.f k e l e l).bind fun s => if a = b ∧ s = true then some true else none else none
theorem hawserlaw23_ClientNews.calls (k : Nat) (id e : Int) (A0 : Option Addr) (c0 : Nat) (l0 : List Int) (r : Bool) (w : World) (hr0 : Kd.C (Kd.int .i64) w A0 l0.length l0) (hc0 : l0.length ≤ c0) (h : hawserlaw23_ClientNews.f k id e l0 = some r) :
    Calls Tryz.prog 10 #[.int .i64 id, .agg #[.int .i64 e, .slice A0 l0.length c0]] w fun e w' => e = .returned (.bool r) ∧ Below w.heap.size w w' := by
  unfold hawserlaw23_ClientNews.f at h
  by_cases hl : l0.length ≤ 1048576
  · rw [if_pos hl] at h
    obtain ⟨a, ha, h2⟩ := Option.bind_eq_some_iff.1 h
    obtain ⟨b, hb, h3⟩ := Option.bind_eq_some_iff.1 h2
    obtain ⟨s, hs, h4⟩ := Option.bind_eq_some_iff.1 h3
    by_cases hab : a = b ∧ s = true
    · rw [if_pos hab] at h4
      obtain ⟨rfl, rfl⟩ := hab
      obtain rfl := Option.some.inj h4
      exact Go.Proofs.YtepkaaplhcbkbaaGreat.G.Cli.news_calls k w id e A0 c0 l0 hr0 hc0 hl a ha hb hs
    · rw [if_neg hab] at h4; cases h4
  · rw [if_neg hl] at h; cases h

end Go.Proofs.YtepkaaplhcbkbaaGreat.J
