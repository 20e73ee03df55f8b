-- Written for this claim by a program of this session (wip/xprint.py), by means of the kit's print. Not trusted: Lean checks it.
import Derived.Test.YtepkaaplhcbkbaaGreatKx0
namespace Go.Proofs.YtepkaaplhcbkbaaGreat.K
open Go.RowKit Go.Proofs.YtepkaaplhcbkbaaGreatW.PrintWords Go.Proofs.YtepkaaplhcbkbaaGreatW.PrintLast Go.Proofs.YtepkaaplhcbkbaaGreatW.PrintMore
attribute [local go_sem] max2_int min2_int max_two min_two max_three min_three max_four min_four   -- for this text's walks alone
set_option linter.unusedVariables false
set_option linter.unusedSimpArgs false

-- NOT PRINTED: function 70 (client_Client_is)

-- NOT PRINTED: function 32 (client_Client_Waits)

-- NOT PRINTED: function 65 (client_Client_free)

-- NOT PRINTED: function 133 (delta_isUser)

-- NOT PRINTED: function 134 (delta_within)

-- NOT PRINTED: function 66 (delta_Check)

-- NOT PRINTED: function 67 (client_Client_out)

-- NOT PRINTED: function 138 (config_places)

-- NOT PRINTED: function 74 (config_Check)

-- NOT PRINTED: function 135 (config_at)

-- NOT PRINTED: function 68 (config_Head)

-- NOT PRINTED: function 27 (client_Client_Submit)

-- NOT PRINTED: function 62 (slices_Equal_int_int)

-- NOT PRINTED: function 63 (api_Digest)

-- NOT PRINTED: function 130 (api_Piece)

-- NOT PRINTED: function 64 (message_sameChunk)

-- NOT PRINTED: function 25 (message_Alike)

-- NOT PRINTED: function 46 (message_lines)

-- NOT PRINTED: function 107 (message_placeOf)

-- NOT PRINTED: function 229 (message_way_229)

-- NOT PRINTED: function 108 (message_way_108)

-- NOT PRINTED: function 48 (message_line_goes)

-- NOT PRINTED: function 18 (message_Check)

-- NOT PRINTED: function 136 (slices_Clone_int_int)

-- NOT PRINTED: function 71 (client_own)

-- NOT PRINTED: function 72 (client_Client_answered)

-- NOT PRINTED: function 29 (client_Client_Take)

-- NOT PRINTED: function 30 (client_Client_Last)

-- NOT PRINTED: function 33 (client_Client_Epoch)

-- NOT PRINTED: function 35 (hawserlaw23_place)

-- NOT PRINTED: function 36 (client_New)

-- NOT PRINTED: function 37 (hawserlaw23_one)

-- NOT PRINTED: function 38 (hawserref21_CheckConfig)

/-! ### hawserlaw23_ClientStale: function 9 -/
def hawserlaw23_ClientStale.f (k : Nat) (id e : Int) (l : List Int) (back : Int) : Option Bool := if l.length ≤ 1048576 then (Go.Proofs.YtepkaaplhcbkbaaGreat.H.hawserref21_CheckConfig.f k e l).bind fun e0 => if (e0 = 0 → 2 ≤ e → Go.Proofs.YtepkaaplhcbkbaaGreat.G.Msg.rcfg e l = true ∧ e ≤ 1099511627776 ∧ 1 ≤ l.length) then some true else none else none
theorem hawserlaw23_ClientStale.calls (k : Nat) (id e : Int) (A0 : Option Addr) (c0 : Nat) (l0 : List Int) (back : Int) (r : Bool) (w : World) (hr0 : Kd.C (Kd.int .i64) w A0 l0.length l0) (hc0 : l0.length ≤ c0) (h : hawserlaw23_ClientStale.f k id e l0 back = some r) :
    Calls Tryz.prog 9 #[.int .i64 id, .agg #[.int .i64 e, .slice A0 l0.length c0], .int .i64 back] w fun e w' => e = .returned (.bool r) ∧ Below w.heap.size w w' := by
  unfold hawserlaw23_ClientStale.f at h
  by_cases hl : l0.length ≤ 1048576
  · rw [if_pos hl] at h
    obtain ⟨e0, he0, h2⟩ := Option.bind_eq_some_iff.1 h
    split at h2
    · next hz =>
      obtain rfl := Option.some.inj h2
      exact Go.Proofs.YtepkaaplhcbkbaaGreat.G.Cli.stale_calls k w id back e A0 c0 l0 hr0 hc0 hl e0 he0 hz
    · cases h2
  · rw [if_neg hl] at h; cases h

end Go.Proofs.YtepkaaplhcbkbaaGreat.K
