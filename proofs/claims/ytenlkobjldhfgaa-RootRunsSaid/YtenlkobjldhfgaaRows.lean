/-
  No cell of these rows narrows 'for every input' (looked for: loops, veiled, ifaces, maps, wideKeys, modest, calm, conditions, laid).
  DERIVED. THE GIVEN ROWS OF THIS SEAT. 5 by the template 'for every input the law returns true; each argument reads behind the call as it read before'; 0 by the template 'total and deterministic' (their statements: YtenlkobjldhfgaaTotals.lean).
  GIVEN WITH THE SEED: the statements are not yours to turn. If you find one false, say at which input.
  Laid BY PROGRAM, IN A SANDBOX (cutbox-rows.mjs): the forced cells as the released guide's own fill.sh prints them over the translation 6e6dc68217a3920f… (all of the seat's roots in one cut). By AI agents, Wed Nov 11 2026. No macro, syntax, notation, axiom, sorry.
-/
import Derived.Test.YtenlkobjldhfgaaChecked
import GoSem.Claim
import GoSem.ClaimJoined
import GoSem.ClaimMapViews
import Derived.JoinedTies
import Derived.KernelRfl
namespace Go.Proofs.Ytenlkobjldhfgaa
/- THE CELL 'sum', in the pinned program and in every row, IS THE sha256 OF THE DUMP (.gsa) THAT YtenlkobjldhfgaaProg.lean LOADS. Nothing in Lean hashes anything: it is a label: what it is worth is what the hold of that sum in a sandbox is worth. -/
noncomputable def Try.pinned : Pinned := { name := "ytenlkobjldhfgaa", sum := "6e6dc68217a3920f21a6763d2c75eb78d4e31560429a82144c8b5b2aed29de4c", checked := Try.checked }
namespace Rows
def none {H : Type} : Left H := { results := [], args := [] }

/-- 'understudylaw05.RootNames': WHATEVER THE INPUT: true; the input reads as it did. -/
def rootNamesSpec : ChangeSpec := { name := "rootNames", fn := fun _ => fun
  | [] => { results := [.lit (.bool true)], args := [] }
  | _ => none }
def rootNamesRow : OpenClaim := { program := "ytenlkobjldhfgaa", sum := "6e6dc68217a3920f21a6763d2c75eb78d4e31560429a82144c8b5b2aed29de4c", func := "understudy/understudylaw05.RootNames", spec := "rootNames", unfollowed := true, recurses := true, apart := false }
def RootNamesSaid : Prop := rootNamesRow.holds Try.pinned (OpenSpec.ofChange rootNamesSpec)

/-- ITS FALSE NEIGHBOUR: 'it returns false'. Refute it at one input. -/
def rootNamesWrong : ChangeSpec := { name := "rootNames", fn := fun _ => fun
  | [] => { results := [.lit (.bool false)], args := [] }
  | _ => none }
def RootNamesWrongFalsely : Prop := rootNamesRow.holds Try.pinned (OpenSpec.ofChange rootNamesWrong)

/-- 'understudylaw05.RootTurns': WHATEVER THE INPUT: true; the input reads as it did. -/
def rootTurnsSpec : ChangeSpec := { name := "rootTurns", fn := fun _ => fun
  | [d] => { results := [.lit (.bool true)], args := [d] }
  | _ => none }
def rootTurnsRow : OpenClaim := { program := "ytenlkobjldhfgaa", sum := "6e6dc68217a3920f21a6763d2c75eb78d4e31560429a82144c8b5b2aed29de4c", func := "understudy/understudylaw05.RootTurns", spec := "rootTurns", unfollowed := true, recurses := true, apart := false }
def RootTurnsSaid : Prop := rootTurnsRow.holds Try.pinned (OpenSpec.ofChange rootTurnsSpec)

/-- ITS FALSE NEIGHBOUR: 'it returns false'. Refute it at one input. -/
def rootTurnsWrong : ChangeSpec := { name := "rootTurns", fn := fun _ => fun
  | [d] => { results := [.lit (.bool false)], args := [d] }
  | _ => none }
def RootTurnsWrongFalsely : Prop := rootTurnsRow.holds Try.pinned (OpenSpec.ofChange rootTurnsWrong)

/-- 'understudylaw05.RootSpoilt': WHATEVER THE INPUT: true; the input reads as it did. -/
def rootSpoiltSpec : ChangeSpec := { name := "rootSpoilt", fn := fun _ => fun
  | [d1, d2, d3] => { results := [.lit (.bool true)], args := [d1, d2, d3] }
  | _ => none }
def rootSpoiltRow : OpenClaim := { program := "ytenlkobjldhfgaa", sum := "6e6dc68217a3920f21a6763d2c75eb78d4e31560429a82144c8b5b2aed29de4c", func := "understudy/understudylaw05.RootSpoilt", spec := "rootSpoilt", unfollowed := true, recurses := true, apart := false }
def RootSpoiltSaid : Prop := rootSpoiltRow.holds Try.pinned (OpenSpec.ofChange rootSpoiltSpec)

/-- ITS FALSE NEIGHBOUR: 'it returns false'. Refute it at one input. -/
def rootSpoiltWrong : ChangeSpec := { name := "rootSpoilt", fn := fun _ => fun
  | [d1, d2, d3] => { results := [.lit (.bool false)], args := [d1, d2, d3] }
  | _ => none }
def RootSpoiltWrongFalsely : Prop := rootSpoiltRow.holds Try.pinned (OpenSpec.ofChange rootSpoiltWrong)

/-- 'understudylaw05.RootTorn': WHATEVER THE INPUT: true; the input reads as it did. -/
def rootTornSpec : ChangeSpec := { name := "rootTorn", fn := fun _ => fun
  | [d] => { results := [.lit (.bool true)], args := [d] }
  | _ => none }
def rootTornRow : OpenClaim := { program := "ytenlkobjldhfgaa", sum := "6e6dc68217a3920f21a6763d2c75eb78d4e31560429a82144c8b5b2aed29de4c", func := "understudy/understudylaw05.RootTorn", spec := "rootTorn", unfollowed := true, recurses := true, apart := false }
def RootTornSaid : Prop := rootTornRow.holds Try.pinned (OpenSpec.ofChange rootTornSpec)

/-- ITS FALSE NEIGHBOUR: 'it returns false'. Refute it at one input. -/
def rootTornWrong : ChangeSpec := { name := "rootTorn", fn := fun _ => fun
  | [d] => { results := [.lit (.bool false)], args := [d] }
  | _ => none }
def RootTornWrongFalsely : Prop := rootTornRow.holds Try.pinned (OpenSpec.ofChange rootTornWrong)

/-- 'understudylaw05.RootRuns': WHATEVER THE INPUT: true; the input reads as it did. -/
def rootRunsSpec : ChangeSpec := { name := "rootRuns", fn := fun _ => fun
  | [d1, d2] => { results := [.lit (.bool true)], args := [d1, d2] }
  | _ => none }
def rootRunsRow : OpenClaim := { program := "ytenlkobjldhfgaa", sum := "6e6dc68217a3920f21a6763d2c75eb78d4e31560429a82144c8b5b2aed29de4c", func := "understudy/understudylaw05.RootRuns", spec := "rootRuns", unfollowed := true, recurses := true, apart := false }
def RootRunsSaid : Prop := rootRunsRow.holds Try.pinned (OpenSpec.ofChange rootRunsSpec)

/-- ITS FALSE NEIGHBOUR: 'it returns false'. Refute it at one input. -/
def rootRunsWrong : ChangeSpec := { name := "rootRuns", fn := fun _ => fun
  | [d1, d2] => { results := [.lit (.bool false)], args := [d1, d2] }
  | _ => none }
def RootRunsWrongFalsely : Prop := rootRunsRow.holds Try.pinned (OpenSpec.ofChange rootRunsWrong)

/- THE SECOND FORM. 'bulk': how many values and letters a reading holds, each counted each time it is reached (what is shared counts as often as it is met; a slice's spare places count too). A statement '..UptoSaid' is the law's where the arguments, and the package variables that the reading takes, are together of bulk at most 1048576: NARROWER than '..Said'. Prove '..Said' where nothing that the law and all that it calls make is longer than what came in: it says more and counts as full. Else prove '..UptoSaid'. A law counts once. -/
mutual
def uptoBulk {H : Type} : DataW H → Nat
  | .lit (.string bytes) => bytes.length + 1
  | .lit _ => 1
  | .nil => 1
  | .ptr d => uptoBulk d + 1
  | .slice elems spare => uptoBulkAll elems + uptoBulkAll spare + 1
  | .agg parts => uptoBulkAll parts + 1
  | .iface _ d => uptoBulk d + 1
  | .map entries => uptoBulkEntries entries + 1
  | .held _ => 1
def uptoBulkAll {H : Type} : List (DataW H) → Nat
  | [] => 0
  | d :: r => uptoBulk d + uptoBulkAll r
def uptoBulkEntries {H : Type} : List (Lit × DataW H) → Nat
  | [] => 0
  | x :: r => uptoBulkEntry x + uptoBulkEntries r
def uptoBulkEntry {H : Type} : Lit × DataW H → Nat
  | (.string bytes, d) => bytes.length + uptoBulk d + 1
  | (_, d) => uptoBulk d + 1
 end
def uptoSmall : (H : Type) → List (DataW H) → Bool := fun _ ds => decide (uptoBulkAll ds ≤ 1048576)
def OpenSpec.upto (s : _root_.Go.ChangeSpec) : _root_.Go.OpenSpec := { _root_.Go.OpenSpec.ofChange s with cond := some uptoSmall }

/-- 'understudylaw05.RootNames', WHERE WHAT IT READS IS OF BULK AT MOST 1048576: true; the input reads as it did. -/
def rootNamesUptoRow : OpenClaim := { program := "ytenlkobjldhfgaa", sum := "6e6dc68217a3920f21a6763d2c75eb78d4e31560429a82144c8b5b2aed29de4c", func := "understudy/understudylaw05.RootNames", spec := "rootNames", unfollowed := true, recurses := true, apart := false, narrowed := true }
def RootNamesUptoSaid : Prop := rootNamesUptoRow.holds Try.pinned (OpenSpec.upto rootNamesSpec)

/-- 'understudylaw05.RootTurns', WHERE WHAT IT READS IS OF BULK AT MOST 1048576: true; the input reads as it did. -/
def rootTurnsUptoRow : OpenClaim := { program := "ytenlkobjldhfgaa", sum := "6e6dc68217a3920f21a6763d2c75eb78d4e31560429a82144c8b5b2aed29de4c", func := "understudy/understudylaw05.RootTurns", spec := "rootTurns", unfollowed := true, recurses := true, apart := false, narrowed := true }
def RootTurnsUptoSaid : Prop := rootTurnsUptoRow.holds Try.pinned (OpenSpec.upto rootTurnsSpec)

/-- 'understudylaw05.RootSpoilt', WHERE WHAT IT READS IS OF BULK AT MOST 1048576: true; the input reads as it did. -/
def rootSpoiltUptoRow : OpenClaim := { program := "ytenlkobjldhfgaa", sum := "6e6dc68217a3920f21a6763d2c75eb78d4e31560429a82144c8b5b2aed29de4c", func := "understudy/understudylaw05.RootSpoilt", spec := "rootSpoilt", unfollowed := true, recurses := true, apart := false, narrowed := true }
def RootSpoiltUptoSaid : Prop := rootSpoiltUptoRow.holds Try.pinned (OpenSpec.upto rootSpoiltSpec)

/-- 'understudylaw05.RootTorn', WHERE WHAT IT READS IS OF BULK AT MOST 1048576: true; the input reads as it did. -/
def rootTornUptoRow : OpenClaim := { program := "ytenlkobjldhfgaa", sum := "6e6dc68217a3920f21a6763d2c75eb78d4e31560429a82144c8b5b2aed29de4c", func := "understudy/understudylaw05.RootTorn", spec := "rootTorn", unfollowed := true, recurses := true, apart := false, narrowed := true }
def RootTornUptoSaid : Prop := rootTornUptoRow.holds Try.pinned (OpenSpec.upto rootTornSpec)

/-- 'understudylaw05.RootRuns', WHERE WHAT IT READS IS OF BULK AT MOST 1048576: true; the input reads as it did. -/
def rootRunsUptoRow : OpenClaim := { program := "ytenlkobjldhfgaa", sum := "6e6dc68217a3920f21a6763d2c75eb78d4e31560429a82144c8b5b2aed29de4c", func := "understudy/understudylaw05.RootRuns", spec := "rootRuns", unfollowed := true, recurses := true, apart := false, narrowed := true }
def RootRunsUptoSaid : Prop := rootRunsUptoRow.holds Try.pinned (OpenSpec.upto rootRunsSpec)

end Rows
end Go.Proofs.Ytenlkobjldhfgaa
