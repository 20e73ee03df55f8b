/-
  No cell of these rows narrows 'for every input' (looked for: loops, veiled, ifaces, maps, wideKeys, modest, calm, conditions, laid).
  DERIVED. THE GIVEN ROWS OF THIS SEAT. 11 by the template 'for every input the law returns true; each argument reads behind the call as it read before'; 0 by the template 'total and deterministic' (their statements: YtjhijklgpgdlaaaTotals.lean).
  GIVEN WITH THE SEED: the statements are not yours to turn. If you find one false, say at which input.
  Laid BY PROGRAM, IN A SANDBOX (cutbox-rows.mjs): the forced cells as the released guide's own fill.sh prints them over the translation f5b9ed6078b3481a… (all of the seat's roots in one cut). By AI agents, Wed Nov 11 2026. No macro, syntax, notation, axiom, sorry.
-/
import Derived.Test.YtjhijklgpgdlaaaChecked
import GoSem.Claim
import GoSem.ClaimJoined
import GoSem.ClaimMapViews
import Derived.JoinedTies
import Derived.KernelRfl
namespace Go.Proofs.Ytjhijklgpgdlaaa
/- THE CELL 'sum', in the pinned program and in every row, IS THE sha256 OF THE DUMP (.gsa) THAT YtjhijklgpgdlaaaProg.lean LOADS. Nothing in Lean hashes anything: it is a label: what it is worth is what the hold of that sum in a sandbox is worth. -/
noncomputable def Try.pinned : Pinned := { name := "ytjhijklgpgdlaaa", sum := "f5b9ed6078b3481a2110cf7f5c1b16e78e87f98d570851736902773aadff4b66", checked := Try.checked }
namespace Rows
def none {H : Type} : Left H := { results := [], args := [] }

/-- 'hawserlaw16.ConfigSettings': WHATEVER THE INPUT: true; the input reads as it did. -/
def configSettingsSpec : ChangeSpec := { name := "configSettings", fn := fun _ => fun
  | [d] => { results := [.lit (.bool true)], args := [d] }
  | _ => none }
def configSettingsRow : OpenClaim := { program := "ytjhijklgpgdlaaa", sum := "f5b9ed6078b3481a2110cf7f5c1b16e78e87f98d570851736902773aadff4b66", func := "hawser/hawserlaw16.ConfigSettings", spec := "configSettings", unfollowed := true, recurses := true, apart := false }
def ConfigSettingsSaid : Prop := configSettingsRow.holds Try.pinned (OpenSpec.ofChange configSettingsSpec)

/-- ITS FALSE NEIGHBOUR: 'it returns false'. Refute it at one input. -/
def configSettingsWrong : ChangeSpec := { name := "configSettings", fn := fun _ => fun
  | [d] => { results := [.lit (.bool false)], args := [d] }
  | _ => none }
def ConfigSettingsWrongFalsely : Prop := configSettingsRow.holds Try.pinned (OpenSpec.ofChange configSettingsWrong)

/-- 'hawserlaw16.ConfigNames': WHATEVER THE INPUT: true; the input reads as it did. -/
def configNamesSpec : ChangeSpec := { name := "configNames", fn := fun _ => fun
  | [] => { results := [.lit (.bool true)], args := [] }
  | _ => none }
def configNamesRow : OpenClaim := { program := "ytjhijklgpgdlaaa", sum := "f5b9ed6078b3481a2110cf7f5c1b16e78e87f98d570851736902773aadff4b66", func := "hawser/hawserlaw16.ConfigNames", spec := "configNames", apart := false }
def ConfigNamesSaid : Prop := configNamesRow.holds Try.pinned (OpenSpec.ofChange configNamesSpec)

/-- ITS FALSE NEIGHBOUR: 'it returns false'. Refute it at one input. -/
def configNamesWrong : ChangeSpec := { name := "configNames", fn := fun _ => fun
  | [] => { results := [.lit (.bool false)], args := [] }
  | _ => none }
def ConfigNamesWrongFalsely : Prop := configNamesRow.holds Try.pinned (OpenSpec.ofChange configNamesWrong)

/-- 'hawserlaw16.ConfigChecks': WHATEVER THE INPUT: true; the input reads as it did. -/
def configChecksSpec : ChangeSpec := { name := "configChecks", fn := fun _ => fun
  | [d] => { results := [.lit (.bool true)], args := [d] }
  | _ => none }
def configChecksRow : OpenClaim := { program := "ytjhijklgpgdlaaa", sum := "f5b9ed6078b3481a2110cf7f5c1b16e78e87f98d570851736902773aadff4b66", func := "hawser/hawserlaw16.ConfigChecks", spec := "configChecks", apart := false }
def ConfigChecksSaid : Prop := configChecksRow.holds Try.pinned (OpenSpec.ofChange configChecksSpec)

/-- ITS FALSE NEIGHBOUR: 'it returns false'. Refute it at one input. -/
def configChecksWrong : ChangeSpec := { name := "configChecks", fn := fun _ => fun
  | [d] => { results := [.lit (.bool false)], args := [d] }
  | _ => none }
def ConfigChecksWrongFalsely : Prop := configChecksRow.holds Try.pinned (OpenSpec.ofChange configChecksWrong)

/-- 'hawserlaw16.ConfigBytes': WHATEVER THE INPUT: true; the input reads as it did. -/
def configBytesSpec : ChangeSpec := { name := "configBytes", fn := fun _ => fun
  | [d] => { results := [.lit (.bool true)], args := [d] }
  | _ => none }
def configBytesRow : OpenClaim := { program := "ytjhijklgpgdlaaa", sum := "f5b9ed6078b3481a2110cf7f5c1b16e78e87f98d570851736902773aadff4b66", func := "hawser/hawserlaw16.ConfigBytes", spec := "configBytes", apart := false }
def ConfigBytesSaid : Prop := configBytesRow.holds Try.pinned (OpenSpec.ofChange configBytesSpec)

/-- ITS FALSE NEIGHBOUR: 'it returns false'. Refute it at one input. -/
def configBytesWrong : ChangeSpec := { name := "configBytes", fn := fun _ => fun
  | [d] => { results := [.lit (.bool false)], args := [d] }
  | _ => none }
def ConfigBytesWrongFalsely : Prop := configBytesRow.holds Try.pinned (OpenSpec.ofChange configBytesWrong)

/-- 'hawserlaw16.ConfigFollows': WHATEVER THE INPUT: true; the input reads as it did. -/
def configFollowsSpec : ChangeSpec := { name := "configFollows", fn := fun _ => fun
  | [d1, d2] => { results := [.lit (.bool true)], args := [d1, d2] }
  | _ => none }
def configFollowsRow : OpenClaim := { program := "ytjhijklgpgdlaaa", sum := "f5b9ed6078b3481a2110cf7f5c1b16e78e87f98d570851736902773aadff4b66", func := "hawser/hawserlaw16.ConfigFollows", spec := "configFollows", apart := false }
def ConfigFollowsSaid : Prop := configFollowsRow.holds Try.pinned (OpenSpec.ofChange configFollowsSpec)

/-- ITS FALSE NEIGHBOUR: 'it returns false'. Refute it at one input. -/
def configFollowsWrong : ChangeSpec := { name := "configFollows", fn := fun _ => fun
  | [d1, d2] => { results := [.lit (.bool false)], args := [d1, d2] }
  | _ => none }
def ConfigFollowsWrongFalsely : Prop := configFollowsRow.holds Try.pinned (OpenSpec.ofChange configFollowsWrong)

/-- 'hawserlaw16.ConfigPlaces': WHATEVER THE INPUT: true; the input reads as it did. -/
def configPlacesSpec : ChangeSpec := { name := "configPlaces", fn := fun _ => fun
  | [d1, d2] => { results := [.lit (.bool true)], args := [d1, d2] }
  | _ => none }
def configPlacesRow : OpenClaim := { program := "ytjhijklgpgdlaaa", sum := "f5b9ed6078b3481a2110cf7f5c1b16e78e87f98d570851736902773aadff4b66", func := "hawser/hawserlaw16.ConfigPlaces", spec := "configPlaces", apart := false }
def ConfigPlacesSaid : Prop := configPlacesRow.holds Try.pinned (OpenSpec.ofChange configPlacesSpec)

/-- ITS FALSE NEIGHBOUR: 'it returns false'. Refute it at one input. -/
def configPlacesWrong : ChangeSpec := { name := "configPlaces", fn := fun _ => fun
  | [d1, d2] => { results := [.lit (.bool false)], args := [d1, d2] }
  | _ => none }
def ConfigPlacesWrongFalsely : Prop := configPlacesRow.holds Try.pinned (OpenSpec.ofChange configPlacesWrong)

/-- 'hawserlaw16.ConfigWalk': WHATEVER THE INPUT: true; the input reads as it did. -/
def configWalkSpec : ChangeSpec := { name := "configWalk", fn := fun _ => fun
  | [d] => { results := [.lit (.bool true)], args := [d] }
  | _ => none }
def configWalkRow : OpenClaim := { program := "ytjhijklgpgdlaaa", sum := "f5b9ed6078b3481a2110cf7f5c1b16e78e87f98d570851736902773aadff4b66", func := "hawser/hawserlaw16.ConfigWalk", spec := "configWalk", apart := false }
def ConfigWalkSaid : Prop := configWalkRow.holds Try.pinned (OpenSpec.ofChange configWalkSpec)

/-- ITS FALSE NEIGHBOUR: 'it returns false'. Refute it at one input. -/
def configWalkWrong : ChangeSpec := { name := "configWalk", fn := fun _ => fun
  | [d] => { results := [.lit (.bool false)], args := [d] }
  | _ => none }
def ConfigWalkWrongFalsely : Prop := configWalkRow.holds Try.pinned (OpenSpec.ofChange configWalkWrong)

/-- 'hawserlaw16.ConfigSteps': WHATEVER THE INPUT: true; the input reads as it did. -/
def configStepsSpec : ChangeSpec := { name := "configSteps", fn := fun _ => fun
  | [d1, d2] => { results := [.lit (.bool true)], args := [d1, d2] }
  | _ => none }
def configStepsRow : OpenClaim := { program := "ytjhijklgpgdlaaa", sum := "f5b9ed6078b3481a2110cf7f5c1b16e78e87f98d570851736902773aadff4b66", func := "hawser/hawserlaw16.ConfigSteps", spec := "configSteps", apart := false }
def ConfigStepsSaid : Prop := configStepsRow.holds Try.pinned (OpenSpec.ofChange configStepsSpec)

/-- ITS FALSE NEIGHBOUR: 'it returns false'. Refute it at one input. -/
def configStepsWrong : ChangeSpec := { name := "configSteps", fn := fun _ => fun
  | [d1, d2] => { results := [.lit (.bool false)], args := [d1, d2] }
  | _ => none }
def ConfigStepsWrongFalsely : Prop := configStepsRow.holds Try.pinned (OpenSpec.ofChange configStepsWrong)

/-- 'hawserlaw16.ConfigReads': WHATEVER THE INPUT: true; the input reads as it did. -/
def configReadsSpec : ChangeSpec := { name := "configReads", fn := fun _ => fun
  | [d] => { results := [.lit (.bool true)], args := [d] }
  | _ => none }
def configReadsRow : OpenClaim := { program := "ytjhijklgpgdlaaa", sum := "f5b9ed6078b3481a2110cf7f5c1b16e78e87f98d570851736902773aadff4b66", func := "hawser/hawserlaw16.ConfigReads", spec := "configReads", unfollowed := true, recurses := true, apart := false }
def ConfigReadsSaid : Prop := configReadsRow.holds Try.pinned (OpenSpec.ofChange configReadsSpec)

/-- ITS FALSE NEIGHBOUR: 'it returns false'. Refute it at one input. -/
def configReadsWrong : ChangeSpec := { name := "configReads", fn := fun _ => fun
  | [d] => { results := [.lit (.bool false)], args := [d] }
  | _ => none }
def ConfigReadsWrongFalsely : Prop := configReadsRow.holds Try.pinned (OpenSpec.ofChange configReadsWrong)

/-- 'hawserlaw16.ConfigChange': WHATEVER THE INPUT: true; the input reads as it did. -/
def configChangeSpec : ChangeSpec := { name := "configChange", fn := fun _ => fun
  | [d1, d2] => { results := [.lit (.bool true)], args := [d1, d2] }
  | _ => none }
def configChangeRow : OpenClaim := { program := "ytjhijklgpgdlaaa", sum := "f5b9ed6078b3481a2110cf7f5c1b16e78e87f98d570851736902773aadff4b66", func := "hawser/hawserlaw16.ConfigChange", spec := "configChange", apart := false }
def ConfigChangeSaid : Prop := configChangeRow.holds Try.pinned (OpenSpec.ofChange configChangeSpec)

/-- ITS FALSE NEIGHBOUR: 'it returns false'. Refute it at one input. -/
def configChangeWrong : ChangeSpec := { name := "configChange", fn := fun _ => fun
  | [d1, d2] => { results := [.lit (.bool false)], args := [d1, d2] }
  | _ => none }
def ConfigChangeWrongFalsely : Prop := configChangeRow.holds Try.pinned (OpenSpec.ofChange configChangeWrong)

/-- 'hawserlaw16.ConfigOwn': WHATEVER THE INPUT: true; the input reads as it did. -/
def configOwnSpec : ChangeSpec := { name := "configOwn", fn := fun _ => fun
  | [d] => { results := [.lit (.bool true)], args := [d] }
  | _ => none }
def configOwnRow : OpenClaim := { program := "ytjhijklgpgdlaaa", sum := "f5b9ed6078b3481a2110cf7f5c1b16e78e87f98d570851736902773aadff4b66", func := "hawser/hawserlaw16.ConfigOwn", spec := "configOwn", unfollowed := true, recurses := true, apart := false }
def ConfigOwnSaid : Prop := configOwnRow.holds Try.pinned (OpenSpec.ofChange configOwnSpec)

/-- ITS FALSE NEIGHBOUR: 'it returns false'. Refute it at one input. -/
def configOwnWrong : ChangeSpec := { name := "configOwn", fn := fun _ => fun
  | [d] => { results := [.lit (.bool false)], args := [d] }
  | _ => none }
def ConfigOwnWrongFalsely : Prop := configOwnRow.holds Try.pinned (OpenSpec.ofChange configOwnWrong)

/- THE SECOND FORM. 'bulk': how many values and letters a reading holds, each counted each time it is reached (what is shared counts as often as it is met; a slice's spare places count too). A statement '..UptoSaid' is the law's where the arguments, and the package variables that the reading takes, are together of bulk at most 1048576: NARROWER than '..Said'. Prove '..Said' where nothing that the law and all that it calls make is longer than what came in: it says more and counts as full. Else prove '..UptoSaid'. A law counts once. -/
mutual
def uptoBulk {H : Type} : DataW H → Nat
  | .lit (.string bytes) => bytes.length + 1
  | .lit _ => 1
  | .nil => 1
  | .ptr d => uptoBulk d + 1
  | .slice elems spare => uptoBulkAll elems + uptoBulkAll spare + 1
  | .agg parts => uptoBulkAll parts + 1
  | .iface _ d => uptoBulk d + 1
  | .map entries => uptoBulkEntries entries + 1
  | .held _ => 1
def uptoBulkAll {H : Type} : List (DataW H) → Nat
  | [] => 0
  | d :: r => uptoBulk d + uptoBulkAll r
def uptoBulkEntries {H : Type} : List (Lit × DataW H) → Nat
  | [] => 0
  | x :: r => uptoBulkEntry x + uptoBulkEntries r
def uptoBulkEntry {H : Type} : Lit × DataW H → Nat
  | (.string bytes, d) => bytes.length + uptoBulk d + 1
  | (_, d) => uptoBulk d + 1
 end
def uptoSmall : (H : Type) → List (DataW H) → Bool := fun _ ds => decide (uptoBulkAll ds ≤ 1048576)
def OpenSpec.upto (s : _root_.Go.ChangeSpec) : _root_.Go.OpenSpec := { _root_.Go.OpenSpec.ofChange s with cond := some uptoSmall }

/-- 'hawserlaw16.ConfigSettings', WHERE WHAT IT READS IS OF BULK AT MOST 1048576: true; the input reads as it did. -/
def configSettingsUptoRow : OpenClaim := { program := "ytjhijklgpgdlaaa", sum := "f5b9ed6078b3481a2110cf7f5c1b16e78e87f98d570851736902773aadff4b66", func := "hawser/hawserlaw16.ConfigSettings", spec := "configSettings", unfollowed := true, recurses := true, apart := false, narrowed := true }
def ConfigSettingsUptoSaid : Prop := configSettingsUptoRow.holds Try.pinned (OpenSpec.upto configSettingsSpec)

/-- 'hawserlaw16.ConfigNames', WHERE WHAT IT READS IS OF BULK AT MOST 1048576: true; the input reads as it did. -/
def configNamesUptoRow : OpenClaim := { program := "ytjhijklgpgdlaaa", sum := "f5b9ed6078b3481a2110cf7f5c1b16e78e87f98d570851736902773aadff4b66", func := "hawser/hawserlaw16.ConfigNames", spec := "configNames", apart := false, narrowed := true }
def ConfigNamesUptoSaid : Prop := configNamesUptoRow.holds Try.pinned (OpenSpec.upto configNamesSpec)

/-- 'hawserlaw16.ConfigChecks', WHERE WHAT IT READS IS OF BULK AT MOST 1048576: true; the input reads as it did. -/
def configChecksUptoRow : OpenClaim := { program := "ytjhijklgpgdlaaa", sum := "f5b9ed6078b3481a2110cf7f5c1b16e78e87f98d570851736902773aadff4b66", func := "hawser/hawserlaw16.ConfigChecks", spec := "configChecks", apart := false, narrowed := true }
def ConfigChecksUptoSaid : Prop := configChecksUptoRow.holds Try.pinned (OpenSpec.upto configChecksSpec)

/-- 'hawserlaw16.ConfigBytes', WHERE WHAT IT READS IS OF BULK AT MOST 1048576: true; the input reads as it did. -/
def configBytesUptoRow : OpenClaim := { program := "ytjhijklgpgdlaaa", sum := "f5b9ed6078b3481a2110cf7f5c1b16e78e87f98d570851736902773aadff4b66", func := "hawser/hawserlaw16.ConfigBytes", spec := "configBytes", apart := false, narrowed := true }
def ConfigBytesUptoSaid : Prop := configBytesUptoRow.holds Try.pinned (OpenSpec.upto configBytesSpec)

/-- 'hawserlaw16.ConfigFollows', WHERE WHAT IT READS IS OF BULK AT MOST 1048576: true; the input reads as it did. -/
def configFollowsUptoRow : OpenClaim := { program := "ytjhijklgpgdlaaa", sum := "f5b9ed6078b3481a2110cf7f5c1b16e78e87f98d570851736902773aadff4b66", func := "hawser/hawserlaw16.ConfigFollows", spec := "configFollows", apart := false, narrowed := true }
def ConfigFollowsUptoSaid : Prop := configFollowsUptoRow.holds Try.pinned (OpenSpec.upto configFollowsSpec)

/-- 'hawserlaw16.ConfigPlaces', WHERE WHAT IT READS IS OF BULK AT MOST 1048576: true; the input reads as it did. -/
def configPlacesUptoRow : OpenClaim := { program := "ytjhijklgpgdlaaa", sum := "f5b9ed6078b3481a2110cf7f5c1b16e78e87f98d570851736902773aadff4b66", func := "hawser/hawserlaw16.ConfigPlaces", spec := "configPlaces", apart := false, narrowed := true }
def ConfigPlacesUptoSaid : Prop := configPlacesUptoRow.holds Try.pinned (OpenSpec.upto configPlacesSpec)

/-- 'hawserlaw16.ConfigWalk', WHERE WHAT IT READS IS OF BULK AT MOST 1048576: true; the input reads as it did. -/
def configWalkUptoRow : OpenClaim := { program := "ytjhijklgpgdlaaa", sum := "f5b9ed6078b3481a2110cf7f5c1b16e78e87f98d570851736902773aadff4b66", func := "hawser/hawserlaw16.ConfigWalk", spec := "configWalk", apart := false, narrowed := true }
def ConfigWalkUptoSaid : Prop := configWalkUptoRow.holds Try.pinned (OpenSpec.upto configWalkSpec)

/-- 'hawserlaw16.ConfigSteps', WHERE WHAT IT READS IS OF BULK AT MOST 1048576: true; the input reads as it did. -/
def configStepsUptoRow : OpenClaim := { program := "ytjhijklgpgdlaaa", sum := "f5b9ed6078b3481a2110cf7f5c1b16e78e87f98d570851736902773aadff4b66", func := "hawser/hawserlaw16.ConfigSteps", spec := "configSteps", apart := false, narrowed := true }
def ConfigStepsUptoSaid : Prop := configStepsUptoRow.holds Try.pinned (OpenSpec.upto configStepsSpec)

/-- 'hawserlaw16.ConfigReads', WHERE WHAT IT READS IS OF BULK AT MOST 1048576: true; the input reads as it did. -/
def configReadsUptoRow : OpenClaim := { program := "ytjhijklgpgdlaaa", sum := "f5b9ed6078b3481a2110cf7f5c1b16e78e87f98d570851736902773aadff4b66", func := "hawser/hawserlaw16.ConfigReads", spec := "configReads", unfollowed := true, recurses := true, apart := false, narrowed := true }
def ConfigReadsUptoSaid : Prop := configReadsUptoRow.holds Try.pinned (OpenSpec.upto configReadsSpec)

/-- 'hawserlaw16.ConfigChange', WHERE WHAT IT READS IS OF BULK AT MOST 1048576: true; the input reads as it did. -/
def configChangeUptoRow : OpenClaim := { program := "ytjhijklgpgdlaaa", sum := "f5b9ed6078b3481a2110cf7f5c1b16e78e87f98d570851736902773aadff4b66", func := "hawser/hawserlaw16.ConfigChange", spec := "configChange", apart := false, narrowed := true }
def ConfigChangeUptoSaid : Prop := configChangeUptoRow.holds Try.pinned (OpenSpec.upto configChangeSpec)

/-- 'hawserlaw16.ConfigOwn', WHERE WHAT IT READS IS OF BULK AT MOST 1048576: true; the input reads as it did. -/
def configOwnUptoRow : OpenClaim := { program := "ytjhijklgpgdlaaa", sum := "f5b9ed6078b3481a2110cf7f5c1b16e78e87f98d570851736902773aadff4b66", func := "hawser/hawserlaw16.ConfigOwn", spec := "configOwn", unfollowed := true, recurses := true, apart := false, narrowed := true }
def ConfigOwnUptoSaid : Prop := configOwnUptoRow.holds Try.pinned (OpenSpec.upto configOwnSpec)

end Rows
end Go.Proofs.Ytjhijklgpgdlaaa
