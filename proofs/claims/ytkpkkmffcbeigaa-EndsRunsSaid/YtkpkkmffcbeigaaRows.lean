/-
  No cell of these rows narrows 'for every input' (looked for: loops, veiled, ifaces, maps, wideKeys, modest, calm, conditions, laid).
  DERIVED. THE GIVEN ROWS OF THIS SEAT. 6 by the template 'for every input the law returns true; each argument reads behind the call as it read before'; 0 by the template 'total and deterministic' (their statements: YtkpkkmffcbeigaaTotals.lean).
  GIVEN WITH THE SEED: the statements are not yours to turn. If you find one false, say at which input.
  Laid BY PROGRAM, IN A SANDBOX (cutbox-rows.mjs): the forced cells as the released guide's own fill.sh prints them over the translation aaa938b627f2218b… (all of the seat's roots in one cut). By AI agents, Wed Nov 11 2026. No macro, syntax, notation, axiom, sorry.
-/
import Derived.Test.YtkpkkmffcbeigaaChecked
import GoSem.Claim
import GoSem.ClaimJoined
import GoSem.ClaimMapViews
import Derived.JoinedTies
import Derived.KernelRfl
namespace Go.Proofs.Ytkpkkmffcbeigaa
/- THE CELL 'sum', in the pinned program and in every row, IS THE sha256 OF THE DUMP (.gsa) THAT YtkpkkmffcbeigaaProg.lean LOADS. Nothing in Lean hashes anything: it is a label: what it is worth is what the hold of that sum in a sandbox is worth. -/
noncomputable def Try.pinned : Pinned := { name := "ytkpkkmffcbeigaa", sum := "aaa938b627f2218b5b354d44c761f56cad00521db887210ca9d40d6fa265c48b", checked := Try.checked }
namespace Rows
def none {H : Type} : Left H := { results := [], args := [] }

/-- 'understudylaw01.EndsPuts': WHATEVER THE INPUT: true; the input reads as it did. -/
def endsPutsSpec : ChangeSpec := { name := "endsPuts", fn := fun _ => fun
  | [d1, d2, d3] => { results := [.lit (.bool true)], args := [d1, d2, d3] }
  | _ => none }
def endsPutsRow : OpenClaim := { program := "ytkpkkmffcbeigaa", sum := "aaa938b627f2218b5b354d44c761f56cad00521db887210ca9d40d6fa265c48b", func := "understudy/understudylaw01.EndsPuts", spec := "endsPuts", unfollowed := true, recurses := true, apart := false }
def EndsPutsSaid : Prop := endsPutsRow.holds Try.pinned (OpenSpec.ofChange endsPutsSpec)

/-- ITS FALSE NEIGHBOUR: 'it returns false'. Refute it at one input. -/
def endsPutsWrong : ChangeSpec := { name := "endsPuts", fn := fun _ => fun
  | [d1, d2, d3] => { results := [.lit (.bool false)], args := [d1, d2, d3] }
  | _ => none }
def EndsPutsWrongFalsely : Prop := endsPutsRow.holds Try.pinned (OpenSpec.ofChange endsPutsWrong)

/-- 'understudylaw01.EndsJoin': WHATEVER THE INPUT: true; the input reads as it did. -/
def endsJoinSpec : ChangeSpec := { name := "endsJoin", fn := fun _ => fun
  | [d1, d2, d3] => { results := [.lit (.bool true)], args := [d1, d2, d3] }
  | _ => none }
def endsJoinRow : OpenClaim := { program := "ytkpkkmffcbeigaa", sum := "aaa938b627f2218b5b354d44c761f56cad00521db887210ca9d40d6fa265c48b", func := "understudy/understudylaw01.EndsJoin", spec := "endsJoin", unfollowed := true, recurses := true, apart := false }
def EndsJoinSaid : Prop := endsJoinRow.holds Try.pinned (OpenSpec.ofChange endsJoinSpec)

/-- ITS FALSE NEIGHBOUR: 'it returns false'. Refute it at one input. -/
def endsJoinWrong : ChangeSpec := { name := "endsJoin", fn := fun _ => fun
  | [d1, d2, d3] => { results := [.lit (.bool false)], args := [d1, d2, d3] }
  | _ => none }
def EndsJoinWrongFalsely : Prop := endsJoinRow.holds Try.pinned (OpenSpec.ofChange endsJoinWrong)

/-- 'understudylaw01.EndsHalves': WHATEVER THE INPUT: true; the input reads as it did. -/
def endsHalvesSpec : ChangeSpec := { name := "endsHalves", fn := fun _ => fun
  | [d] => { results := [.lit (.bool true)], args := [d] }
  | _ => none }
def endsHalvesRow : OpenClaim := { program := "ytkpkkmffcbeigaa", sum := "aaa938b627f2218b5b354d44c761f56cad00521db887210ca9d40d6fa265c48b", func := "understudy/understudylaw01.EndsHalves", spec := "endsHalves", unfollowed := true, recurses := true, apart := false }
def EndsHalvesSaid : Prop := endsHalvesRow.holds Try.pinned (OpenSpec.ofChange endsHalvesSpec)

/-- ITS FALSE NEIGHBOUR: 'it returns false'. Refute it at one input. -/
def endsHalvesWrong : ChangeSpec := { name := "endsHalves", fn := fun _ => fun
  | [d] => { results := [.lit (.bool false)], args := [d] }
  | _ => none }
def EndsHalvesWrongFalsely : Prop := endsHalvesRow.holds Try.pinned (OpenSpec.ofChange endsHalvesWrong)

/-- 'understudylaw01.EndsNames': WHATEVER THE INPUT: true; the input reads as it did. -/
def endsNamesSpec : ChangeSpec := { name := "endsNames", fn := fun _ => fun
  | [] => { results := [.lit (.bool true)], args := [] }
  | _ => none }
def endsNamesRow : OpenClaim := { program := "ytkpkkmffcbeigaa", sum := "aaa938b627f2218b5b354d44c761f56cad00521db887210ca9d40d6fa265c48b", func := "understudy/understudylaw01.EndsNames", spec := "endsNames", unfollowed := true, recurses := true, apart := false }
def EndsNamesSaid : Prop := endsNamesRow.holds Try.pinned (OpenSpec.ofChange endsNamesSpec)

/-- ITS FALSE NEIGHBOUR: 'it returns false'. Refute it at one input. -/
def endsNamesWrong : ChangeSpec := { name := "endsNames", fn := fun _ => fun
  | [] => { results := [.lit (.bool false)], args := [] }
  | _ => none }
def EndsNamesWrongFalsely : Prop := endsNamesRow.holds Try.pinned (OpenSpec.ofChange endsNamesWrong)

/-- 'understudylaw01.EndsRuns': WHATEVER THE INPUT: true; the input reads as it did. -/
def endsRunsSpec : ChangeSpec := { name := "endsRuns", fn := fun _ => fun
  | [d1, d2] => { results := [.lit (.bool true)], args := [d1, d2] }
  | _ => none }
def endsRunsRow : OpenClaim := { program := "ytkpkkmffcbeigaa", sum := "aaa938b627f2218b5b354d44c761f56cad00521db887210ca9d40d6fa265c48b", func := "understudy/understudylaw01.EndsRuns", spec := "endsRuns", unfollowed := true, recurses := true, apart := false }
def EndsRunsSaid : Prop := endsRunsRow.holds Try.pinned (OpenSpec.ofChange endsRunsSpec)

/-- ITS FALSE NEIGHBOUR: 'it returns false'. Refute it at one input. -/
def endsRunsWrong : ChangeSpec := { name := "endsRuns", fn := fun _ => fun
  | [d1, d2] => { results := [.lit (.bool false)], args := [d1, d2] }
  | _ => none }
def EndsRunsWrongFalsely : Prop := endsRunsRow.holds Try.pinned (OpenSpec.ofChange endsRunsWrong)

/-- 'understudylaw01.EndsBack': WHATEVER THE INPUT: true; the input reads as it did. -/
def endsBackSpec : ChangeSpec := { name := "endsBack", fn := fun _ => fun
  | [d1, d2] => { results := [.lit (.bool true)], args := [d1, d2] }
  | _ => none }
def endsBackRow : OpenClaim := { program := "ytkpkkmffcbeigaa", sum := "aaa938b627f2218b5b354d44c761f56cad00521db887210ca9d40d6fa265c48b", func := "understudy/understudylaw01.EndsBack", spec := "endsBack", unfollowed := true, recurses := true, apart := false }
def EndsBackSaid : Prop := endsBackRow.holds Try.pinned (OpenSpec.ofChange endsBackSpec)

/-- ITS FALSE NEIGHBOUR: 'it returns false'. Refute it at one input. -/
def endsBackWrong : ChangeSpec := { name := "endsBack", fn := fun _ => fun
  | [d1, d2] => { results := [.lit (.bool false)], args := [d1, d2] }
  | _ => none }
def EndsBackWrongFalsely : Prop := endsBackRow.holds Try.pinned (OpenSpec.ofChange endsBackWrong)

/- THE SECOND FORM. 'bulk': how many values and letters a reading holds, each counted each time it is reached (what is shared counts as often as it is met; a slice's spare places count too). A statement '..UptoSaid' is the law's where the arguments, and the package variables that the reading takes, are together of bulk at most 1048576: NARROWER than '..Said'. Prove '..Said' where nothing that the law and all that it calls make is longer than what came in: it says more and counts as full. Else prove '..UptoSaid'. A law counts once. -/
mutual
def uptoBulk {H : Type} : DataW H → Nat
  | .lit (.string bytes) => bytes.length + 1
  | .lit _ => 1
  | .nil => 1
  | .ptr d => uptoBulk d + 1
  | .slice elems spare => uptoBulkAll elems + uptoBulkAll spare + 1
  | .agg parts => uptoBulkAll parts + 1
  | .iface _ d => uptoBulk d + 1
  | .map entries => uptoBulkEntries entries + 1
  | .held _ => 1
def uptoBulkAll {H : Type} : List (DataW H) → Nat
  | [] => 0
  | d :: r => uptoBulk d + uptoBulkAll r
def uptoBulkEntries {H : Type} : List (Lit × DataW H) → Nat
  | [] => 0
  | x :: r => uptoBulkEntry x + uptoBulkEntries r
def uptoBulkEntry {H : Type} : Lit × DataW H → Nat
  | (.string bytes, d) => bytes.length + uptoBulk d + 1
  | (_, d) => uptoBulk d + 1
 end
def uptoSmall : (H : Type) → List (DataW H) → Bool := fun _ ds => decide (uptoBulkAll ds ≤ 1048576)
def OpenSpec.upto (s : _root_.Go.ChangeSpec) : _root_.Go.OpenSpec := { _root_.Go.OpenSpec.ofChange s with cond := some uptoSmall }

/-- 'understudylaw01.EndsPuts', WHERE WHAT IT READS IS OF BULK AT MOST 1048576: true; the input reads as it did. -/
def endsPutsUptoRow : OpenClaim := { program := "ytkpkkmffcbeigaa", sum := "aaa938b627f2218b5b354d44c761f56cad00521db887210ca9d40d6fa265c48b", func := "understudy/understudylaw01.EndsPuts", spec := "endsPuts", unfollowed := true, recurses := true, apart := false, narrowed := true }
def EndsPutsUptoSaid : Prop := endsPutsUptoRow.holds Try.pinned (OpenSpec.upto endsPutsSpec)

/-- 'understudylaw01.EndsJoin', WHERE WHAT IT READS IS OF BULK AT MOST 1048576: true; the input reads as it did. -/
def endsJoinUptoRow : OpenClaim := { program := "ytkpkkmffcbeigaa", sum := "aaa938b627f2218b5b354d44c761f56cad00521db887210ca9d40d6fa265c48b", func := "understudy/understudylaw01.EndsJoin", spec := "endsJoin", unfollowed := true, recurses := true, apart := false, narrowed := true }
def EndsJoinUptoSaid : Prop := endsJoinUptoRow.holds Try.pinned (OpenSpec.upto endsJoinSpec)

/-- 'understudylaw01.EndsHalves', WHERE WHAT IT READS IS OF BULK AT MOST 1048576: true; the input reads as it did. -/
def endsHalvesUptoRow : OpenClaim := { program := "ytkpkkmffcbeigaa", sum := "aaa938b627f2218b5b354d44c761f56cad00521db887210ca9d40d6fa265c48b", func := "understudy/understudylaw01.EndsHalves", spec := "endsHalves", unfollowed := true, recurses := true, apart := false, narrowed := true }
def EndsHalvesUptoSaid : Prop := endsHalvesUptoRow.holds Try.pinned (OpenSpec.upto endsHalvesSpec)

/-- 'understudylaw01.EndsNames', WHERE WHAT IT READS IS OF BULK AT MOST 1048576: true; the input reads as it did. -/
def endsNamesUptoRow : OpenClaim := { program := "ytkpkkmffcbeigaa", sum := "aaa938b627f2218b5b354d44c761f56cad00521db887210ca9d40d6fa265c48b", func := "understudy/understudylaw01.EndsNames", spec := "endsNames", unfollowed := true, recurses := true, apart := false, narrowed := true }
def EndsNamesUptoSaid : Prop := endsNamesUptoRow.holds Try.pinned (OpenSpec.upto endsNamesSpec)

/-- 'understudylaw01.EndsRuns', WHERE WHAT IT READS IS OF BULK AT MOST 1048576: true; the input reads as it did. -/
def endsRunsUptoRow : OpenClaim := { program := "ytkpkkmffcbeigaa", sum := "aaa938b627f2218b5b354d44c761f56cad00521db887210ca9d40d6fa265c48b", func := "understudy/understudylaw01.EndsRuns", spec := "endsRuns", unfollowed := true, recurses := true, apart := false, narrowed := true }
def EndsRunsUptoSaid : Prop := endsRunsUptoRow.holds Try.pinned (OpenSpec.upto endsRunsSpec)

/-- 'understudylaw01.EndsBack', WHERE WHAT IT READS IS OF BULK AT MOST 1048576: true; the input reads as it did. -/
def endsBackUptoRow : OpenClaim := { program := "ytkpkkmffcbeigaa", sum := "aaa938b627f2218b5b354d44c761f56cad00521db887210ca9d40d6fa265c48b", func := "understudy/understudylaw01.EndsBack", spec := "endsBack", unfollowed := true, recurses := true, apart := false, narrowed := true }
def EndsBackUptoSaid : Prop := endsBackUptoRow.holds Try.pinned (OpenSpec.upto endsBackSpec)

end Rows
end Go.Proofs.Ytkpkkmffcbeigaa
