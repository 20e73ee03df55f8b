/-
  No cell of these rows narrows 'for every input' (looked for: loops, veiled, ifaces, maps, wideKeys, modest, calm, conditions, laid).
  DERIVED. THE GIVEN ROWS OF THIS SEAT. 2 by the template 'for every input the law returns true; each argument reads behind the call as it read before'; 0 by the template 'total and deterministic' (their statements: YtkkmceejfmjidaaTotals.lean).
  GIVEN WITH THE SEED: the statements are not yours to turn. If you find one false, say at which input.
  Laid BY PROGRAM, IN A SANDBOX (cutbox-rows.mjs): the forced cells as the released guide's own fill.sh prints them over the translation eda80fcc6fdc9dc1… (all of the seat's roots in one cut). By AI agents, Wed Nov 11 2026. No macro, syntax, notation, axiom, sorry.
-/
import Derived.Test.YtkkmceejfmjidaaChecked
import GoSem.Claim
import GoSem.ClaimJoined
import GoSem.ClaimMapViews
import Derived.JoinedTies
import Derived.KernelRfl
namespace Go.Proofs.Ytkkmceejfmjidaa
/- THE CELL 'sum', in the pinned program and in every row, IS THE sha256 OF THE DUMP (.gsa) THAT YtkkmceejfmjidaaProg.lean LOADS. Nothing in Lean hashes anything: it is a label: what it is worth is what the hold of that sum in a sandbox is worth. -/
noncomputable def Try.pinned : Pinned := { name := "ytkkmceejfmjidaa", sum := "eda80fcc6fdc9dc110efc6b47eb16bd8e390f11ac4632948d20671f62e810502", checked := Try.checked }
namespace Rows
def none {H : Type} : Left H := { results := [], args := [] }

/-- 'hawserlaw21.MasterStates': WHATEVER THE INPUT: true; the input reads as it did. -/
def masterStatesSpec : ChangeSpec := { name := "masterStates", fn := fun _ => fun
  | [d] => { results := [.lit (.bool true)], args := [d] }
  | _ => none }
def masterStatesRow : OpenClaim := { program := "ytkkmceejfmjidaa", sum := "eda80fcc6fdc9dc110efc6b47eb16bd8e390f11ac4632948d20671f62e810502", func := "hawser/hawserlaw21.MasterStates", spec := "masterStates", recurses := true, apart := false }
def MasterStatesSaid : Prop := masterStatesRow.holds Try.pinned (OpenSpec.ofChange masterStatesSpec)

/-- ITS FALSE NEIGHBOUR: 'it returns false'. Refute it at one input. -/
def masterStatesWrong : ChangeSpec := { name := "masterStates", fn := fun _ => fun
  | [d] => { results := [.lit (.bool false)], args := [d] }
  | _ => none }
def MasterStatesWrongFalsely : Prop := masterStatesRow.holds Try.pinned (OpenSpec.ofChange masterStatesWrong)

/-- 'hawserlaw21.MasterReads': WHATEVER THE INPUT: true; the input reads as it did. -/
def masterReadsSpec : ChangeSpec := { name := "masterReads", fn := fun _ => fun
  | [d] => { results := [.lit (.bool true)], args := [d] }
  | _ => none }
def masterReadsRow : OpenClaim := { program := "ytkkmceejfmjidaa", sum := "eda80fcc6fdc9dc110efc6b47eb16bd8e390f11ac4632948d20671f62e810502", func := "hawser/hawserlaw21.MasterReads", spec := "masterReads", unfollowed := true, recurses := true, apart := false }
def MasterReadsSaid : Prop := masterReadsRow.holds Try.pinned (OpenSpec.ofChange masterReadsSpec)

/-- ITS FALSE NEIGHBOUR: 'it returns false'. Refute it at one input. -/
def masterReadsWrong : ChangeSpec := { name := "masterReads", fn := fun _ => fun
  | [d] => { results := [.lit (.bool false)], args := [d] }
  | _ => none }
def MasterReadsWrongFalsely : Prop := masterReadsRow.holds Try.pinned (OpenSpec.ofChange masterReadsWrong)

/- THE SECOND FORM. 'bulk': how many values and letters a reading holds, each counted each time it is reached (what is shared counts as often as it is met; a slice's spare places count too). A statement '..UptoSaid' is the law's where the arguments, and the package variables that the reading takes, are together of bulk at most 1048576: NARROWER than '..Said'. Prove '..Said' where nothing that the law and all that it calls make is longer than what came in: it says more and counts as full. Else prove '..UptoSaid'. A law counts once. -/
mutual
def uptoBulk {H : Type} : DataW H → Nat
  | .lit (.string bytes) => bytes.length + 1
  | .lit _ => 1
  | .nil => 1
  | .ptr d => uptoBulk d + 1
  | .slice elems spare => uptoBulkAll elems + uptoBulkAll spare + 1
  | .agg parts => uptoBulkAll parts + 1
  | .iface _ d => uptoBulk d + 1
  | .map entries => uptoBulkEntries entries + 1
  | .held _ => 1
def uptoBulkAll {H : Type} : List (DataW H) → Nat
  | [] => 0
  | d :: r => uptoBulk d + uptoBulkAll r
def uptoBulkEntries {H : Type} : List (Lit × DataW H) → Nat
  | [] => 0
  | x :: r => uptoBulkEntry x + uptoBulkEntries r
def uptoBulkEntry {H : Type} : Lit × DataW H → Nat
  | (.string bytes, d) => bytes.length + uptoBulk d + 1
  | (_, d) => uptoBulk d + 1
 end
def uptoSmall : (H : Type) → List (DataW H) → Bool := fun _ ds => decide (uptoBulkAll ds ≤ 1048576)
def OpenSpec.upto (s : _root_.Go.ChangeSpec) : _root_.Go.OpenSpec := { _root_.Go.OpenSpec.ofChange s with cond := some uptoSmall }

/-- 'hawserlaw21.MasterStates', WHERE WHAT IT READS IS OF BULK AT MOST 1048576: true; the input reads as it did. -/
def masterStatesUptoRow : OpenClaim := { program := "ytkkmceejfmjidaa", sum := "eda80fcc6fdc9dc110efc6b47eb16bd8e390f11ac4632948d20671f62e810502", func := "hawser/hawserlaw21.MasterStates", spec := "masterStates", recurses := true, apart := false, narrowed := true }
def MasterStatesUptoSaid : Prop := masterStatesUptoRow.holds Try.pinned (OpenSpec.upto masterStatesSpec)

/-- 'hawserlaw21.MasterReads', WHERE WHAT IT READS IS OF BULK AT MOST 1048576: true; the input reads as it did. -/
def masterReadsUptoRow : OpenClaim := { program := "ytkkmceejfmjidaa", sum := "eda80fcc6fdc9dc110efc6b47eb16bd8e390f11ac4632948d20671f62e810502", func := "hawser/hawserlaw21.MasterReads", spec := "masterReads", unfollowed := true, recurses := true, apart := false, narrowed := true }
def MasterReadsUptoSaid : Prop := masterReadsUptoRow.holds Try.pinned (OpenSpec.upto masterReadsSpec)

end Rows
end Go.Proofs.Ytkkmceejfmjidaa
