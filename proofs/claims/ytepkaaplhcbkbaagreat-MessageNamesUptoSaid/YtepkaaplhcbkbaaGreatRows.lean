/-
  No cell of these rows narrows 'for every input' (looked for: loops, veiled, ifaces, maps, wideKeys, modest, calm, conditions, laid).
  DERIVED. THE GIVEN ROWS OF THIS SEAT. 11 by the template 'for every input the law returns true; each argument reads behind the call as it read before'; 0 by the template 'total and deterministic' (their statements: YtepkaaplhcbkbaaGreatTotals.lean).
  GIVEN WITH THE SEED: the statements are not yours to turn. If you find one false, say at which input.
  Laid BY PROGRAM, IN A SANDBOX (cutbox-rows.mjs): the forced cells as the released guide's own fill.sh prints them over the translation cdc03c0edbcf9d4e… (all of the seat's roots in one cut). By AI agents, Wed Nov 11 2026. No macro, syntax, notation, axiom, sorry.
-/
import Derived.Test.YtepkaaplhcbkbaaGreatChecked
import GoSem.Claim
import GoSem.ClaimJoined
import GoSem.ClaimMapViews
import Derived.JoinedTies
import Derived.KernelRfl
namespace Go.Proofs.YtepkaaplhcbkbaaGreat
/- THE CELL 'sum', in the pinned program and in every row, IS THE sha256 OF THE DUMP (.gsa) THAT YtepkaaplhcbkbaaGreatProg.lean LOADS. Nothing in Lean hashes anything: it is a label: what it is worth is what the hold of that sum in a sandbox is worth. -/
noncomputable def Tryz.pinned : Pinned := { name := "ytepkaaplhcbkbaagreat", sum := "cdc03c0edbcf9d4e10c03e3e4545d4953c8793f26cf9523e2ceae14dc313c9ad", checked := Tryz.checked }
namespace Rows
def none {H : Type} : Left H := { results := [], args := [] }

/-- 'hawserlaw15.MessageNames': WHATEVER THE INPUT: true; the input reads as it did. -/
def messageNamesSpec : ChangeSpec := { name := "messageNames", fn := fun _ => fun
  | [] => { results := [.lit (.bool true)], args := [] }
  | _ => none }
def messageNamesRow : OpenClaim := { program := "ytepkaaplhcbkbaagreat", sum := "cdc03c0edbcf9d4e10c03e3e4545d4953c8793f26cf9523e2ceae14dc313c9ad", func := "hawser/hawserlaw15.MessageNames", spec := "messageNames", unfollowed := true, recurses := true, apart := false }
def MessageNamesSaid : Prop := messageNamesRow.holds Tryz.pinned (OpenSpec.ofChange messageNamesSpec)

/-- ITS FALSE NEIGHBOUR: 'it returns false'. Refute it at one input. -/
def messageNamesWrong : ChangeSpec := { name := "messageNames", fn := fun _ => fun
  | [] => { results := [.lit (.bool false)], args := [] }
  | _ => none }
def MessageNamesWrongFalsely : Prop := messageNamesRow.holds Tryz.pinned (OpenSpec.ofChange messageNamesWrong)

/-- 'hawserlaw15.MessageChecks': WHATEVER THE INPUT: true; the input reads as it did. -/
def messageChecksSpec : ChangeSpec := { name := "messageChecks", fn := fun _ => fun
  | [d] => { results := [.lit (.bool true)], args := [d] }
  | _ => none }
def messageChecksRow : OpenClaim := { program := "ytepkaaplhcbkbaagreat", sum := "cdc03c0edbcf9d4e10c03e3e4545d4953c8793f26cf9523e2ceae14dc313c9ad", func := "hawser/hawserlaw15.MessageChecks", spec := "messageChecks", unfollowed := true, recurses := true, apart := false }
def MessageChecksSaid : Prop := messageChecksRow.holds Tryz.pinned (OpenSpec.ofChange messageChecksSpec)

/-- ITS FALSE NEIGHBOUR: 'it returns false'. Refute it at one input. -/
def messageChecksWrong : ChangeSpec := { name := "messageChecks", fn := fun _ => fun
  | [d] => { results := [.lit (.bool false)], args := [d] }
  | _ => none }
def MessageChecksWrongFalsely : Prop := messageChecksRow.holds Tryz.pinned (OpenSpec.ofChange messageChecksWrong)

/-- 'hawserlaw15.MessageEncodes': WHATEVER THE INPUT: true; the input reads as it did. -/
def messageEncodesSpec : ChangeSpec := { name := "messageEncodes", fn := fun _ => fun
  | [d1, d2] => { results := [.lit (.bool true)], args := [d1, d2] }
  | _ => none }
def messageEncodesRow : OpenClaim := { program := "ytepkaaplhcbkbaagreat", sum := "cdc03c0edbcf9d4e10c03e3e4545d4953c8793f26cf9523e2ceae14dc313c9ad", func := "hawser/hawserlaw15.MessageEncodes", spec := "messageEncodes", unfollowed := true, recurses := true, apart := false }
def MessageEncodesSaid : Prop := messageEncodesRow.holds Tryz.pinned (OpenSpec.ofChange messageEncodesSpec)

/-- ITS FALSE NEIGHBOUR: 'it returns false'. Refute it at one input. -/
def messageEncodesWrong : ChangeSpec := { name := "messageEncodes", fn := fun _ => fun
  | [d1, d2] => { results := [.lit (.bool false)], args := [d1, d2] }
  | _ => none }
def MessageEncodesWrongFalsely : Prop := messageEncodesRow.holds Tryz.pinned (OpenSpec.ofChange messageEncodesWrong)

/-- 'hawserlaw15.MessageAlikes': WHATEVER THE INPUT: true; the input reads as it did. -/
def messageAlikesSpec : ChangeSpec := { name := "messageAlikes", fn := fun _ => fun
  | [d1, d2] => { results := [.lit (.bool true)], args := [d1, d2] }
  | _ => none }
def messageAlikesRow : OpenClaim := { program := "ytepkaaplhcbkbaagreat", sum := "cdc03c0edbcf9d4e10c03e3e4545d4953c8793f26cf9523e2ceae14dc313c9ad", func := "hawser/hawserlaw15.MessageAlikes", spec := "messageAlikes", unfollowed := true, recurses := true, apart := false }
def MessageAlikesSaid : Prop := messageAlikesRow.holds Tryz.pinned (OpenSpec.ofChange messageAlikesSpec)

/-- ITS FALSE NEIGHBOUR: 'it returns false'. Refute it at one input. -/
def messageAlikesWrong : ChangeSpec := { name := "messageAlikes", fn := fun _ => fun
  | [d1, d2] => { results := [.lit (.bool false)], args := [d1, d2] }
  | _ => none }
def MessageAlikesWrongFalsely : Prop := messageAlikesRow.holds Tryz.pinned (OpenSpec.ofChange messageAlikesWrong)

/-- 'hawserlaw23.ClientNames': WHATEVER THE INPUT: true; the input reads as it did. -/
def clientNamesSpec : ChangeSpec := { name := "clientNames", fn := fun _ => fun
  | [] => { results := [.lit (.bool true)], args := [] }
  | _ => none }
def clientNamesRow : OpenClaim := { program := "ytepkaaplhcbkbaagreat", sum := "cdc03c0edbcf9d4e10c03e3e4545d4953c8793f26cf9523e2ceae14dc313c9ad", func := "hawser/hawserlaw23.ClientNames", spec := "clientNames", unfollowed := true, recurses := true, apart := false }
def ClientNamesSaid : Prop := clientNamesRow.holds Tryz.pinned (OpenSpec.ofChange clientNamesSpec)

/-- ITS FALSE NEIGHBOUR: 'it returns false'. Refute it at one input. -/
def clientNamesWrong : ChangeSpec := { name := "clientNames", fn := fun _ => fun
  | [] => { results := [.lit (.bool false)], args := [] }
  | _ => none }
def ClientNamesWrongFalsely : Prop := clientNamesRow.holds Tryz.pinned (OpenSpec.ofChange clientNamesWrong)

/-- 'hawserlaw23.ClientMade': WHATEVER THE INPUT: true; the input reads as it did. -/
def clientMadeSpec : ChangeSpec := { name := "clientMade", fn := fun _ => fun
  | [d] => { results := [.lit (.bool true)], args := [d] }
  | _ => none }
def clientMadeRow : OpenClaim := { program := "ytepkaaplhcbkbaagreat", sum := "cdc03c0edbcf9d4e10c03e3e4545d4953c8793f26cf9523e2ceae14dc313c9ad", func := "hawser/hawserlaw23.ClientMade", spec := "clientMade", unfollowed := true, recurses := true, apart := false }
def ClientMadeSaid : Prop := clientMadeRow.holds Tryz.pinned (OpenSpec.ofChange clientMadeSpec)

/-- ITS FALSE NEIGHBOUR: 'it returns false'. Refute it at one input. -/
def clientMadeWrong : ChangeSpec := { name := "clientMade", fn := fun _ => fun
  | [d] => { results := [.lit (.bool false)], args := [d] }
  | _ => none }
def ClientMadeWrongFalsely : Prop := clientMadeRow.holds Tryz.pinned (OpenSpec.ofChange clientMadeWrong)

/-- 'hawserlaw23.ClientStale': WHATEVER THE INPUT: true; the input reads as it did. -/
def clientStaleSpec : ChangeSpec := { name := "clientStale", fn := fun _ => fun
  | [d1, d2, d3] => { results := [.lit (.bool true)], args := [d1, d2, d3] }
  | _ => none }
def clientStaleRow : OpenClaim := { program := "ytepkaaplhcbkbaagreat", sum := "cdc03c0edbcf9d4e10c03e3e4545d4953c8793f26cf9523e2ceae14dc313c9ad", func := "hawser/hawserlaw23.ClientStale", spec := "clientStale", unfollowed := true, recurses := true, apart := false }
def ClientStaleSaid : Prop := clientStaleRow.holds Tryz.pinned (OpenSpec.ofChange clientStaleSpec)

/-- ITS FALSE NEIGHBOUR: 'it returns false'. Refute it at one input. -/
def clientStaleWrong : ChangeSpec := { name := "clientStale", fn := fun _ => fun
  | [d1, d2, d3] => { results := [.lit (.bool false)], args := [d1, d2, d3] }
  | _ => none }
def ClientStaleWrongFalsely : Prop := clientStaleRow.holds Tryz.pinned (OpenSpec.ofChange clientStaleWrong)

/-- 'hawserlaw23.ClientNews': WHATEVER THE INPUT: true; the input reads as it did. -/
def clientNewsSpec : ChangeSpec := { name := "clientNews", fn := fun _ => fun
  | [d1, d2] => { results := [.lit (.bool true)], args := [d1, d2] }
  | _ => none }
def clientNewsRow : OpenClaim := { program := "ytepkaaplhcbkbaagreat", sum := "cdc03c0edbcf9d4e10c03e3e4545d4953c8793f26cf9523e2ceae14dc313c9ad", func := "hawser/hawserlaw23.ClientNews", spec := "clientNews", unfollowed := true, recurses := true, apart := false }
def ClientNewsSaid : Prop := clientNewsRow.holds Tryz.pinned (OpenSpec.ofChange clientNewsSpec)

/-- ITS FALSE NEIGHBOUR: 'it returns false'. Refute it at one input. -/
def clientNewsWrong : ChangeSpec := { name := "clientNews", fn := fun _ => fun
  | [d1, d2] => { results := [.lit (.bool false)], args := [d1, d2] }
  | _ => none }
def ClientNewsWrongFalsely : Prop := clientNewsRow.holds Tryz.pinned (OpenSpec.ofChange clientNewsWrong)

/-- 'hawserlaw15.MessageDecodes': WHATEVER THE INPUT: true; the input reads as it did. -/
def messageDecodesSpec : ChangeSpec := { name := "messageDecodes", fn := fun _ => fun
  | [d] => { results := [.lit (.bool true)], args := [d] }
  | _ => none }
def messageDecodesRow : OpenClaim := { program := "ytepkaaplhcbkbaagreat", sum := "cdc03c0edbcf9d4e10c03e3e4545d4953c8793f26cf9523e2ceae14dc313c9ad", func := "hawser/hawserlaw15.MessageDecodes", spec := "messageDecodes", unfollowed := true, recurses := true, apart := false }
def MessageDecodesSaid : Prop := messageDecodesRow.holds Tryz.pinned (OpenSpec.ofChange messageDecodesSpec)

/-- ITS FALSE NEIGHBOUR: 'it returns false'. Refute it at one input. -/
def messageDecodesWrong : ChangeSpec := { name := "messageDecodes", fn := fun _ => fun
  | [d] => { results := [.lit (.bool false)], args := [d] }
  | _ => none }
def MessageDecodesWrongFalsely : Prop := messageDecodesRow.holds Tryz.pinned (OpenSpec.ofChange messageDecodesWrong)

/-- 'hawserlaw15.MessageBack': WHATEVER THE INPUT: true; the input reads as it did. -/
def messageBackSpec : ChangeSpec := { name := "messageBack", fn := fun _ => fun
  | [d] => { results := [.lit (.bool true)], args := [d] }
  | _ => none }
def messageBackRow : OpenClaim := { program := "ytepkaaplhcbkbaagreat", sum := "cdc03c0edbcf9d4e10c03e3e4545d4953c8793f26cf9523e2ceae14dc313c9ad", func := "hawser/hawserlaw15.MessageBack", spec := "messageBack", unfollowed := true, recurses := true, apart := false }
def MessageBackSaid : Prop := messageBackRow.holds Tryz.pinned (OpenSpec.ofChange messageBackSpec)

/-- ITS FALSE NEIGHBOUR: 'it returns false'. Refute it at one input. -/
def messageBackWrong : ChangeSpec := { name := "messageBack", fn := fun _ => fun
  | [d] => { results := [.lit (.bool false)], args := [d] }
  | _ => none }
def MessageBackWrongFalsely : Prop := messageBackRow.holds Tryz.pinned (OpenSpec.ofChange messageBackWrong)

/-- 'hawserlaw15.MessageOne': WHATEVER THE INPUT: true; the input reads as it did. -/
def messageOneSpec : ChangeSpec := { name := "messageOne", fn := fun _ => fun
  | [d1, d2, d3] => { results := [.lit (.bool true)], args := [d1, d2, d3] }
  | _ => none }
def messageOneRow : OpenClaim := { program := "ytepkaaplhcbkbaagreat", sum := "cdc03c0edbcf9d4e10c03e3e4545d4953c8793f26cf9523e2ceae14dc313c9ad", func := "hawser/hawserlaw15.MessageOne", spec := "messageOne", unfollowed := true, recurses := true, apart := false }
def MessageOneSaid : Prop := messageOneRow.holds Tryz.pinned (OpenSpec.ofChange messageOneSpec)

/-- ITS FALSE NEIGHBOUR: 'it returns false'. Refute it at one input. -/
def messageOneWrong : ChangeSpec := { name := "messageOne", fn := fun _ => fun
  | [d1, d2, d3] => { results := [.lit (.bool false)], args := [d1, d2, d3] }
  | _ => none }
def MessageOneWrongFalsely : Prop := messageOneRow.holds Tryz.pinned (OpenSpec.ofChange messageOneWrong)

/- THE SECOND FORM. 'bulk': how many values and letters a reading holds, each counted each time it is reached (what is shared counts as often as it is met; a slice's spare places count too). A statement '..UptoSaid' is the law's where the arguments, and the package variables that the reading takes, are together of bulk at most 1048576: NARROWER than '..Said'. Prove '..Said' where nothing that the law and all that it calls make is longer than what came in: it says more and counts as full. Else prove '..UptoSaid'. A law counts once. -/
mutual
def uptoBulk {H : Type} : DataW H → Nat
  | .lit (.string bytes) => bytes.length + 1
  | .lit _ => 1
  | .nil => 1
  | .ptr d => uptoBulk d + 1
  | .slice elems spare => uptoBulkAll elems + uptoBulkAll spare + 1
  | .agg parts => uptoBulkAll parts + 1
  | .iface _ d => uptoBulk d + 1
  | .map entries => uptoBulkEntries entries + 1
  | .held _ => 1
def uptoBulkAll {H : Type} : List (DataW H) → Nat
  | [] => 0
  | d :: r => uptoBulk d + uptoBulkAll r
def uptoBulkEntries {H : Type} : List (Lit × DataW H) → Nat
  | [] => 0
  | x :: r => uptoBulkEntry x + uptoBulkEntries r
def uptoBulkEntry {H : Type} : Lit × DataW H → Nat
  | (.string bytes, d) => bytes.length + uptoBulk d + 1
  | (_, d) => uptoBulk d + 1
 end
def uptoSmall : (H : Type) → List (DataW H) → Bool := fun _ ds => decide (uptoBulkAll ds ≤ 1048576)
def OpenSpec.upto (s : _root_.Go.ChangeSpec) : _root_.Go.OpenSpec := { _root_.Go.OpenSpec.ofChange s with cond := some uptoSmall }

/-- 'hawserlaw15.MessageNames', WHERE WHAT IT READS IS OF BULK AT MOST 1048576: true; the input reads as it did. -/
def messageNamesUptoRow : OpenClaim := { program := "ytepkaaplhcbkbaagreat", sum := "cdc03c0edbcf9d4e10c03e3e4545d4953c8793f26cf9523e2ceae14dc313c9ad", func := "hawser/hawserlaw15.MessageNames", spec := "messageNames", unfollowed := true, recurses := true, apart := false, narrowed := true }
def MessageNamesUptoSaid : Prop := messageNamesUptoRow.holds Tryz.pinned (OpenSpec.upto messageNamesSpec)

/-- 'hawserlaw15.MessageChecks', WHERE WHAT IT READS IS OF BULK AT MOST 1048576: true; the input reads as it did. -/
def messageChecksUptoRow : OpenClaim := { program := "ytepkaaplhcbkbaagreat", sum := "cdc03c0edbcf9d4e10c03e3e4545d4953c8793f26cf9523e2ceae14dc313c9ad", func := "hawser/hawserlaw15.MessageChecks", spec := "messageChecks", unfollowed := true, recurses := true, apart := false, narrowed := true }
def MessageChecksUptoSaid : Prop := messageChecksUptoRow.holds Tryz.pinned (OpenSpec.upto messageChecksSpec)

/-- 'hawserlaw15.MessageEncodes', WHERE WHAT IT READS IS OF BULK AT MOST 1048576: true; the input reads as it did. -/
def messageEncodesUptoRow : OpenClaim := { program := "ytepkaaplhcbkbaagreat", sum := "cdc03c0edbcf9d4e10c03e3e4545d4953c8793f26cf9523e2ceae14dc313c9ad", func := "hawser/hawserlaw15.MessageEncodes", spec := "messageEncodes", unfollowed := true, recurses := true, apart := false, narrowed := true }
def MessageEncodesUptoSaid : Prop := messageEncodesUptoRow.holds Tryz.pinned (OpenSpec.upto messageEncodesSpec)

/-- 'hawserlaw15.MessageAlikes', WHERE WHAT IT READS IS OF BULK AT MOST 1048576: true; the input reads as it did. -/
def messageAlikesUptoRow : OpenClaim := { program := "ytepkaaplhcbkbaagreat", sum := "cdc03c0edbcf9d4e10c03e3e4545d4953c8793f26cf9523e2ceae14dc313c9ad", func := "hawser/hawserlaw15.MessageAlikes", spec := "messageAlikes", unfollowed := true, recurses := true, apart := false, narrowed := true }
def MessageAlikesUptoSaid : Prop := messageAlikesUptoRow.holds Tryz.pinned (OpenSpec.upto messageAlikesSpec)

/-- 'hawserlaw23.ClientNames', WHERE WHAT IT READS IS OF BULK AT MOST 1048576: true; the input reads as it did. -/
def clientNamesUptoRow : OpenClaim := { program := "ytepkaaplhcbkbaagreat", sum := "cdc03c0edbcf9d4e10c03e3e4545d4953c8793f26cf9523e2ceae14dc313c9ad", func := "hawser/hawserlaw23.ClientNames", spec := "clientNames", unfollowed := true, recurses := true, apart := false, narrowed := true }
def ClientNamesUptoSaid : Prop := clientNamesUptoRow.holds Tryz.pinned (OpenSpec.upto clientNamesSpec)

/-- 'hawserlaw23.ClientMade', WHERE WHAT IT READS IS OF BULK AT MOST 1048576: true; the input reads as it did. -/
def clientMadeUptoRow : OpenClaim := { program := "ytepkaaplhcbkbaagreat", sum := "cdc03c0edbcf9d4e10c03e3e4545d4953c8793f26cf9523e2ceae14dc313c9ad", func := "hawser/hawserlaw23.ClientMade", spec := "clientMade", unfollowed := true, recurses := true, apart := false, narrowed := true }
def ClientMadeUptoSaid : Prop := clientMadeUptoRow.holds Tryz.pinned (OpenSpec.upto clientMadeSpec)

/-- 'hawserlaw23.ClientStale', WHERE WHAT IT READS IS OF BULK AT MOST 1048576: true; the input reads as it did. -/
def clientStaleUptoRow : OpenClaim := { program := "ytepkaaplhcbkbaagreat", sum := "cdc03c0edbcf9d4e10c03e3e4545d4953c8793f26cf9523e2ceae14dc313c9ad", func := "hawser/hawserlaw23.ClientStale", spec := "clientStale", unfollowed := true, recurses := true, apart := false, narrowed := true }
def ClientStaleUptoSaid : Prop := clientStaleUptoRow.holds Tryz.pinned (OpenSpec.upto clientStaleSpec)

/-- 'hawserlaw23.ClientNews', WHERE WHAT IT READS IS OF BULK AT MOST 1048576: true; the input reads as it did. -/
def clientNewsUptoRow : OpenClaim := { program := "ytepkaaplhcbkbaagreat", sum := "cdc03c0edbcf9d4e10c03e3e4545d4953c8793f26cf9523e2ceae14dc313c9ad", func := "hawser/hawserlaw23.ClientNews", spec := "clientNews", unfollowed := true, recurses := true, apart := false, narrowed := true }
def ClientNewsUptoSaid : Prop := clientNewsUptoRow.holds Tryz.pinned (OpenSpec.upto clientNewsSpec)

/-- 'hawserlaw15.MessageDecodes', WHERE WHAT IT READS IS OF BULK AT MOST 1048576: true; the input reads as it did. -/
def messageDecodesUptoRow : OpenClaim := { program := "ytepkaaplhcbkbaagreat", sum := "cdc03c0edbcf9d4e10c03e3e4545d4953c8793f26cf9523e2ceae14dc313c9ad", func := "hawser/hawserlaw15.MessageDecodes", spec := "messageDecodes", unfollowed := true, recurses := true, apart := false, narrowed := true }
def MessageDecodesUptoSaid : Prop := messageDecodesUptoRow.holds Tryz.pinned (OpenSpec.upto messageDecodesSpec)

/-- 'hawserlaw15.MessageBack', WHERE WHAT IT READS IS OF BULK AT MOST 1048576: true; the input reads as it did. -/
def messageBackUptoRow : OpenClaim := { program := "ytepkaaplhcbkbaagreat", sum := "cdc03c0edbcf9d4e10c03e3e4545d4953c8793f26cf9523e2ceae14dc313c9ad", func := "hawser/hawserlaw15.MessageBack", spec := "messageBack", unfollowed := true, recurses := true, apart := false, narrowed := true }
def MessageBackUptoSaid : Prop := messageBackUptoRow.holds Tryz.pinned (OpenSpec.upto messageBackSpec)

/-- 'hawserlaw15.MessageOne', WHERE WHAT IT READS IS OF BULK AT MOST 1048576: true; the input reads as it did. -/
def messageOneUptoRow : OpenClaim := { program := "ytepkaaplhcbkbaagreat", sum := "cdc03c0edbcf9d4e10c03e3e4545d4953c8793f26cf9523e2ceae14dc313c9ad", func := "hawser/hawserlaw15.MessageOne", spec := "messageOne", unfollowed := true, recurses := true, apart := false, narrowed := true }
def MessageOneUptoSaid : Prop := messageOneUptoRow.holds Tryz.pinned (OpenSpec.upto messageOneSpec)

end Rows
end Go.Proofs.YtepkaaplhcbkbaaGreat
