/-
  No cell of these rows narrows 'for every input' (looked for: loops, veiled, ifaces, maps, wideKeys, modest, calm, conditions, laid).
  DERIVED. THE GIVEN ROWS OF THIS SEAT. 9 by the template 'for every input the law returns true; each argument reads behind the call as it read before'; 0 by the template 'total and deterministic' (their statements: YtcpdnoaebbbgcaaTotals.lean).
  GIVEN WITH THE SEED: the statements are not yours to turn. If you find one false, say at which input.
  Laid BY PROGRAM, IN A SANDBOX (cutbox-rows.mjs): the forced cells as the released guide's own fill.sh prints them over the translation def723f181d2812a… (all of the seat's roots in one cut). By AI agents, Wed Nov 11 2026. No macro, syntax, notation, axiom, sorry.
-/
import Derived.Test.YtcpdnoaebbbgcaaChecked
import GoSem.Claim
import GoSem.ClaimJoined
import GoSem.ClaimMapViews
import Derived.JoinedTies
import Derived.KernelRfl
namespace Go.Proofs.Ytcpdnoaebbbgcaa
/- THE CELL 'sum', in the pinned program and in every row, IS THE sha256 OF THE DUMP (.gsa) THAT YtcpdnoaebbbgcaaProg.lean LOADS. Nothing in Lean hashes anything: it is a label: what it is worth is what the hold of that sum in a sandbox is worth. -/
noncomputable def Try.pinned : Pinned := { name := "ytcpdnoaebbbgcaa", sum := "def723f181d2812a93d6901145e42b6518ba57a251ceaf908a2deb04ec554135", checked := Try.checked }
namespace Rows
def none {H : Type} : Left H := { results := [], args := [] }

/-- 'hawserlaw01.LebZigs': WHATEVER THE INPUT: true; the input reads as it did. -/
def lebZigsSpec : ChangeSpec := { name := "lebZigs", fn := fun _ => fun
  | [d1, d2] => { results := [.lit (.bool true)], args := [d1, d2] }
  | _ => none }
def lebZigsRow : OpenClaim := { program := "ytcpdnoaebbbgcaa", sum := "def723f181d2812a93d6901145e42b6518ba57a251ceaf908a2deb04ec554135", func := "hawser/hawserlaw01.LebZigs", spec := "lebZigs", apart := false }
def LebZigsSaid : Prop := lebZigsRow.holds Try.pinned (OpenSpec.ofChange lebZigsSpec)

/-- ITS FALSE NEIGHBOUR: 'it returns false'. Refute it at one input. -/
def lebZigsWrong : ChangeSpec := { name := "lebZigs", fn := fun _ => fun
  | [d1, d2] => { results := [.lit (.bool false)], args := [d1, d2] }
  | _ => none }
def LebZigsWrongFalsely : Prop := lebZigsRow.holds Try.pinned (OpenSpec.ofChange lebZigsWrong)

/-- 'hawserlaw01.LebNames': WHATEVER THE INPUT: true; the input reads as it did. -/
def lebNamesSpec : ChangeSpec := { name := "lebNames", fn := fun _ => fun
  | [] => { results := [.lit (.bool true)], args := [] }
  | _ => none }
def lebNamesRow : OpenClaim := { program := "ytcpdnoaebbbgcaa", sum := "def723f181d2812a93d6901145e42b6518ba57a251ceaf908a2deb04ec554135", func := "hawser/hawserlaw01.LebNames", spec := "lebNames", apart := false }
def LebNamesSaid : Prop := lebNamesRow.holds Try.pinned (OpenSpec.ofChange lebNamesSpec)

/-- ITS FALSE NEIGHBOUR: 'it returns false'. Refute it at one input. -/
def lebNamesWrong : ChangeSpec := { name := "lebNames", fn := fun _ => fun
  | [] => { results := [.lit (.bool false)], args := [] }
  | _ => none }
def LebNamesWrongFalsely : Prop := lebNamesRow.holds Try.pinned (OpenSpec.ofChange lebNamesWrong)

/-- 'hawserlaw01.LebRises': WHATEVER THE INPUT: true; the input reads as it did. -/
def lebRisesSpec : ChangeSpec := { name := "lebRises", fn := fun _ => fun
  | [d1, d2, d3] => { results := [.lit (.bool true)], args := [d1, d2, d3] }
  | _ => none }
def lebRisesRow : OpenClaim := { program := "ytcpdnoaebbbgcaa", sum := "def723f181d2812a93d6901145e42b6518ba57a251ceaf908a2deb04ec554135", func := "hawser/hawserlaw01.LebRises", spec := "lebRises", apart := false }
def LebRisesSaid : Prop := lebRisesRow.holds Try.pinned (OpenSpec.ofChange lebRisesSpec)

/-- ITS FALSE NEIGHBOUR: 'it returns false'. Refute it at one input. -/
def lebRisesWrong : ChangeSpec := { name := "lebRises", fn := fun _ => fun
  | [d1, d2, d3] => { results := [.lit (.bool false)], args := [d1, d2, d3] }
  | _ => none }
def LebRisesWrongFalsely : Prop := lebRisesRow.holds Try.pinned (OpenSpec.ofChange lebRisesWrong)

/-- 'hawserlaw01.LebPrefix': WHATEVER THE INPUT: true; the input reads as it did. -/
def lebPrefixSpec : ChangeSpec := { name := "lebPrefix", fn := fun _ => fun
  | [d] => { results := [.lit (.bool true)], args := [d] }
  | _ => none }
def lebPrefixRow : OpenClaim := { program := "ytcpdnoaebbbgcaa", sum := "def723f181d2812a93d6901145e42b6518ba57a251ceaf908a2deb04ec554135", func := "hawser/hawserlaw01.LebPrefix", spec := "lebPrefix", apart := false }
def LebPrefixSaid : Prop := lebPrefixRow.holds Try.pinned (OpenSpec.ofChange lebPrefixSpec)

/-- ITS FALSE NEIGHBOUR: 'it returns false'. Refute it at one input. -/
def lebPrefixWrong : ChangeSpec := { name := "lebPrefix", fn := fun _ => fun
  | [d] => { results := [.lit (.bool false)], args := [d] }
  | _ => none }
def LebPrefixWrongFalsely : Prop := lebPrefixRow.holds Try.pinned (OpenSpec.ofChange lebPrefixWrong)

/-- 'hawserlaw01.LebDecodes': WHATEVER THE INPUT: true; the input reads as it did. -/
def lebDecodesSpec : ChangeSpec := { name := "lebDecodes", fn := fun _ => fun
  | [d] => { results := [.lit (.bool true)], args := [d] }
  | _ => none }
def lebDecodesRow : OpenClaim := { program := "ytcpdnoaebbbgcaa", sum := "def723f181d2812a93d6901145e42b6518ba57a251ceaf908a2deb04ec554135", func := "hawser/hawserlaw01.LebDecodes", spec := "lebDecodes", apart := false }
def LebDecodesSaid : Prop := lebDecodesRow.holds Try.pinned (OpenSpec.ofChange lebDecodesSpec)

/-- ITS FALSE NEIGHBOUR: 'it returns false'. Refute it at one input. -/
def lebDecodesWrong : ChangeSpec := { name := "lebDecodes", fn := fun _ => fun
  | [d] => { results := [.lit (.bool false)], args := [d] }
  | _ => none }
def LebDecodesWrongFalsely : Prop := lebDecodesRow.holds Try.pinned (OpenSpec.ofChange lebDecodesWrong)

/-- 'hawserlaw01.LebEncodes': WHATEVER THE INPUT: true; the input reads as it did. -/
def lebEncodesSpec : ChangeSpec := { name := "lebEncodes", fn := fun _ => fun
  | [d1, d2] => { results := [.lit (.bool true)], args := [d1, d2] }
  | _ => none }
def lebEncodesRow : OpenClaim := { program := "ytcpdnoaebbbgcaa", sum := "def723f181d2812a93d6901145e42b6518ba57a251ceaf908a2deb04ec554135", func := "hawser/hawserlaw01.LebEncodes", spec := "lebEncodes", recurses := true, apart := false }
def LebEncodesSaid : Prop := lebEncodesRow.holds Try.pinned (OpenSpec.ofChange lebEncodesSpec)

/-- ITS FALSE NEIGHBOUR: 'it returns false'. Refute it at one input. -/
def lebEncodesWrong : ChangeSpec := { name := "lebEncodes", fn := fun _ => fun
  | [d1, d2] => { results := [.lit (.bool false)], args := [d1, d2] }
  | _ => none }
def LebEncodesWrongFalsely : Prop := lebEncodesRow.holds Try.pinned (OpenSpec.ofChange lebEncodesWrong)

/-- 'hawserlaw01.LebTells': WHATEVER THE INPUT: true; the input reads as it did. -/
def lebTellsSpec : ChangeSpec := { name := "lebTells", fn := fun _ => fun
  | [d1, d2] => { results := [.lit (.bool true)], args := [d1, d2] }
  | _ => none }
def lebTellsRow : OpenClaim := { program := "ytcpdnoaebbbgcaa", sum := "def723f181d2812a93d6901145e42b6518ba57a251ceaf908a2deb04ec554135", func := "hawser/hawserlaw01.LebTells", spec := "lebTells", unfollowed := true, recurses := true, apart := false }
def LebTellsSaid : Prop := lebTellsRow.holds Try.pinned (OpenSpec.ofChange lebTellsSpec)

/-- ITS FALSE NEIGHBOUR: 'it returns false'. Refute it at one input. -/
def lebTellsWrong : ChangeSpec := { name := "lebTells", fn := fun _ => fun
  | [d1, d2] => { results := [.lit (.bool false)], args := [d1, d2] }
  | _ => none }
def LebTellsWrongFalsely : Prop := lebTellsRow.holds Try.pinned (OpenSpec.ofChange lebTellsWrong)

/-- 'hawserlaw01.LebBack': WHATEVER THE INPUT: true; the input reads as it did. -/
def lebBackSpec : ChangeSpec := { name := "lebBack", fn := fun _ => fun
  | [d1, d2] => { results := [.lit (.bool true)], args := [d1, d2] }
  | _ => none }
def lebBackRow : OpenClaim := { program := "ytcpdnoaebbbgcaa", sum := "def723f181d2812a93d6901145e42b6518ba57a251ceaf908a2deb04ec554135", func := "hawser/hawserlaw01.LebBack", spec := "lebBack", apart := false }
def LebBackSaid : Prop := lebBackRow.holds Try.pinned (OpenSpec.ofChange lebBackSpec)

/-- ITS FALSE NEIGHBOUR: 'it returns false'. Refute it at one input. -/
def lebBackWrong : ChangeSpec := { name := "lebBack", fn := fun _ => fun
  | [d1, d2] => { results := [.lit (.bool false)], args := [d1, d2] }
  | _ => none }
def LebBackWrongFalsely : Prop := lebBackRow.holds Try.pinned (OpenSpec.ofChange lebBackWrong)

/-- 'hawserlaw01.LebSkips': WHATEVER THE INPUT: true; the input reads as it did. -/
def lebSkipsSpec : ChangeSpec := { name := "lebSkips", fn := fun _ => fun
  | [d1, d2] => { results := [.lit (.bool true)], args := [d1, d2] }
  | _ => none }
def lebSkipsRow : OpenClaim := { program := "ytcpdnoaebbbgcaa", sum := "def723f181d2812a93d6901145e42b6518ba57a251ceaf908a2deb04ec554135", func := "hawser/hawserlaw01.LebSkips", spec := "lebSkips", unfollowed := true, recurses := true, apart := false }
def LebSkipsSaid : Prop := lebSkipsRow.holds Try.pinned (OpenSpec.ofChange lebSkipsSpec)

/-- ITS FALSE NEIGHBOUR: 'it returns false'. Refute it at one input. -/
def lebSkipsWrong : ChangeSpec := { name := "lebSkips", fn := fun _ => fun
  | [d1, d2] => { results := [.lit (.bool false)], args := [d1, d2] }
  | _ => none }
def LebSkipsWrongFalsely : Prop := lebSkipsRow.holds Try.pinned (OpenSpec.ofChange lebSkipsWrong)

/- THE SECOND FORM. 'bulk': how many values and letters a reading holds, each counted each time it is reached (what is shared counts as often as it is met; a slice's spare places count too). A statement '..UptoSaid' is the law's where the arguments, and the package variables that the reading takes, are together of bulk at most 1048576: NARROWER than '..Said'. Prove '..Said' where nothing that the law and all that it calls make is longer than what came in: it says more and counts as full. Else prove '..UptoSaid'. A law counts once. -/
mutual
def uptoBulk {H : Type} : DataW H → Nat
  | .lit (.string bytes) => bytes.length + 1
  | .lit _ => 1
  | .nil => 1
  | .ptr d => uptoBulk d + 1
  | .slice elems spare => uptoBulkAll elems + uptoBulkAll spare + 1
  | .agg parts => uptoBulkAll parts + 1
  | .iface _ d => uptoBulk d + 1
  | .map entries => uptoBulkEntries entries + 1
  | .held _ => 1
def uptoBulkAll {H : Type} : List (DataW H) → Nat
  | [] => 0
  | d :: r => uptoBulk d + uptoBulkAll r
def uptoBulkEntries {H : Type} : List (Lit × DataW H) → Nat
  | [] => 0
  | x :: r => uptoBulkEntry x + uptoBulkEntries r
def uptoBulkEntry {H : Type} : Lit × DataW H → Nat
  | (.string bytes, d) => bytes.length + uptoBulk d + 1
  | (_, d) => uptoBulk d + 1
 end
def uptoSmall : (H : Type) → List (DataW H) → Bool := fun _ ds => decide (uptoBulkAll ds ≤ 1048576)
def OpenSpec.upto (s : _root_.Go.ChangeSpec) : _root_.Go.OpenSpec := { _root_.Go.OpenSpec.ofChange s with cond := some uptoSmall }

/-- 'hawserlaw01.LebZigs', WHERE WHAT IT READS IS OF BULK AT MOST 1048576: true; the input reads as it did. -/
def lebZigsUptoRow : OpenClaim := { program := "ytcpdnoaebbbgcaa", sum := "def723f181d2812a93d6901145e42b6518ba57a251ceaf908a2deb04ec554135", func := "hawser/hawserlaw01.LebZigs", spec := "lebZigs", apart := false, narrowed := true }
def LebZigsUptoSaid : Prop := lebZigsUptoRow.holds Try.pinned (OpenSpec.upto lebZigsSpec)

/-- 'hawserlaw01.LebNames', WHERE WHAT IT READS IS OF BULK AT MOST 1048576: true; the input reads as it did. -/
def lebNamesUptoRow : OpenClaim := { program := "ytcpdnoaebbbgcaa", sum := "def723f181d2812a93d6901145e42b6518ba57a251ceaf908a2deb04ec554135", func := "hawser/hawserlaw01.LebNames", spec := "lebNames", apart := false, narrowed := true }
def LebNamesUptoSaid : Prop := lebNamesUptoRow.holds Try.pinned (OpenSpec.upto lebNamesSpec)

/-- 'hawserlaw01.LebRises', WHERE WHAT IT READS IS OF BULK AT MOST 1048576: true; the input reads as it did. -/
def lebRisesUptoRow : OpenClaim := { program := "ytcpdnoaebbbgcaa", sum := "def723f181d2812a93d6901145e42b6518ba57a251ceaf908a2deb04ec554135", func := "hawser/hawserlaw01.LebRises", spec := "lebRises", apart := false, narrowed := true }
def LebRisesUptoSaid : Prop := lebRisesUptoRow.holds Try.pinned (OpenSpec.upto lebRisesSpec)

/-- 'hawserlaw01.LebPrefix', WHERE WHAT IT READS IS OF BULK AT MOST 1048576: true; the input reads as it did. -/
def lebPrefixUptoRow : OpenClaim := { program := "ytcpdnoaebbbgcaa", sum := "def723f181d2812a93d6901145e42b6518ba57a251ceaf908a2deb04ec554135", func := "hawser/hawserlaw01.LebPrefix", spec := "lebPrefix", apart := false, narrowed := true }
def LebPrefixUptoSaid : Prop := lebPrefixUptoRow.holds Try.pinned (OpenSpec.upto lebPrefixSpec)

/-- 'hawserlaw01.LebDecodes', WHERE WHAT IT READS IS OF BULK AT MOST 1048576: true; the input reads as it did. -/
def lebDecodesUptoRow : OpenClaim := { program := "ytcpdnoaebbbgcaa", sum := "def723f181d2812a93d6901145e42b6518ba57a251ceaf908a2deb04ec554135", func := "hawser/hawserlaw01.LebDecodes", spec := "lebDecodes", apart := false, narrowed := true }
def LebDecodesUptoSaid : Prop := lebDecodesUptoRow.holds Try.pinned (OpenSpec.upto lebDecodesSpec)

/-- 'hawserlaw01.LebEncodes', WHERE WHAT IT READS IS OF BULK AT MOST 1048576: true; the input reads as it did. -/
def lebEncodesUptoRow : OpenClaim := { program := "ytcpdnoaebbbgcaa", sum := "def723f181d2812a93d6901145e42b6518ba57a251ceaf908a2deb04ec554135", func := "hawser/hawserlaw01.LebEncodes", spec := "lebEncodes", recurses := true, apart := false, narrowed := true }
def LebEncodesUptoSaid : Prop := lebEncodesUptoRow.holds Try.pinned (OpenSpec.upto lebEncodesSpec)

/-- 'hawserlaw01.LebTells', WHERE WHAT IT READS IS OF BULK AT MOST 1048576: true; the input reads as it did. -/
def lebTellsUptoRow : OpenClaim := { program := "ytcpdnoaebbbgcaa", sum := "def723f181d2812a93d6901145e42b6518ba57a251ceaf908a2deb04ec554135", func := "hawser/hawserlaw01.LebTells", spec := "lebTells", unfollowed := true, recurses := true, apart := false, narrowed := true }
def LebTellsUptoSaid : Prop := lebTellsUptoRow.holds Try.pinned (OpenSpec.upto lebTellsSpec)

/-- 'hawserlaw01.LebBack', WHERE WHAT IT READS IS OF BULK AT MOST 1048576: true; the input reads as it did. -/
def lebBackUptoRow : OpenClaim := { program := "ytcpdnoaebbbgcaa", sum := "def723f181d2812a93d6901145e42b6518ba57a251ceaf908a2deb04ec554135", func := "hawser/hawserlaw01.LebBack", spec := "lebBack", apart := false, narrowed := true }
def LebBackUptoSaid : Prop := lebBackUptoRow.holds Try.pinned (OpenSpec.upto lebBackSpec)

/-- 'hawserlaw01.LebSkips', WHERE WHAT IT READS IS OF BULK AT MOST 1048576: true; the input reads as it did. -/
def lebSkipsUptoRow : OpenClaim := { program := "ytcpdnoaebbbgcaa", sum := "def723f181d2812a93d6901145e42b6518ba57a251ceaf908a2deb04ec554135", func := "hawser/hawserlaw01.LebSkips", spec := "lebSkips", unfollowed := true, recurses := true, apart := false, narrowed := true }
def LebSkipsUptoSaid : Prop := lebSkipsUptoRow.holds Try.pinned (OpenSpec.upto lebSkipsSpec)

end Rows
end Go.Proofs.Ytcpdnoaebbbgcaa
