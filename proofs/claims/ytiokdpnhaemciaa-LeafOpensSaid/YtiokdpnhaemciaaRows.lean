/-
  No cell of these rows narrows 'for every input' (looked for: loops, veiled, ifaces, maps, wideKeys, modest, calm, conditions, laid).
  DERIVED. THE GIVEN ROWS OF THIS SEAT. 9 by the template 'for every input the law returns true; each argument reads behind the call as it read before'; 0 by the template 'total and deterministic' (their statements: YtiokdpnhaemciaaTotals.lean).
  GIVEN WITH THE SEED: the statements are not yours to turn. If you find one false, say at which input.
  Laid BY PROGRAM, IN A SANDBOX (cutbox-rows.mjs): the forced cells as the released guide's own fill.sh prints them over the translation fcbaf4b62bb983a6… (all of the seat's roots in one cut). By AI agents, Wed Nov 11 2026. No macro, syntax, notation, axiom, sorry.
-/
import Derived.Test.YtiokdpnhaemciaaChecked
import GoSem.Claim
import GoSem.ClaimJoined
import GoSem.ClaimMapViews
import Derived.JoinedTies
import Derived.KernelRfl
namespace Go.Proofs.Ytiokdpnhaemciaa
/- THE CELL 'sum', in the pinned program and in every row, IS THE sha256 OF THE DUMP (.gsa) THAT YtiokdpnhaemciaaProg.lean LOADS. Nothing in Lean hashes anything: it is a label: what it is worth is what the hold of that sum in a sandbox is worth. -/
noncomputable def Try.pinned : Pinned := { name := "ytiokdpnhaemciaa", sum := "fcbaf4b62bb983a6612c8b07474f6fe4f9cf35cb9f41fee34382b194cfec7c41", checked := Try.checked }
namespace Rows
def none {H : Type} : Left H := { results := [], args := [] }

/-- 'understudylaw06.TallyTorn': WHATEVER THE INPUT: true; the input reads as it did. -/
def tallyTornSpec : ChangeSpec := { name := "tallyTorn", fn := fun _ => fun
  | [d1, d2, d3] => { results := [.lit (.bool true)], args := [d1, d2, d3] }
  | _ => none }
def tallyTornRow : OpenClaim := { program := "ytiokdpnhaemciaa", sum := "fcbaf4b62bb983a6612c8b07474f6fe4f9cf35cb9f41fee34382b194cfec7c41", func := "understudy/understudylaw06.TallyTorn", spec := "tallyTorn", apart := false }
def TallyTornSaid : Prop := tallyTornRow.holds Try.pinned (OpenSpec.ofChange tallyTornSpec)

/-- ITS FALSE NEIGHBOUR: 'it returns false'. Refute it at one input. -/
def tallyTornWrong : ChangeSpec := { name := "tallyTorn", fn := fun _ => fun
  | [d1, d2, d3] => { results := [.lit (.bool false)], args := [d1, d2, d3] }
  | _ => none }
def TallyTornWrongFalsely : Prop := tallyTornRow.holds Try.pinned (OpenSpec.ofChange tallyTornWrong)

/-- 'understudylaw06.TallyApart': WHATEVER THE INPUT: true; the input reads as it did. -/
def tallyApartSpec : ChangeSpec := { name := "tallyApart", fn := fun _ => fun
  | [d1, d2, d3] => { results := [.lit (.bool true)], args := [d1, d2, d3] }
  | _ => none }
def tallyApartRow : OpenClaim := { program := "ytiokdpnhaemciaa", sum := "fcbaf4b62bb983a6612c8b07474f6fe4f9cf35cb9f41fee34382b194cfec7c41", func := "understudy/understudylaw06.TallyApart", spec := "tallyApart", apart := false }
def TallyApartSaid : Prop := tallyApartRow.holds Try.pinned (OpenSpec.ofChange tallyApartSpec)

/-- ITS FALSE NEIGHBOUR: 'it returns false'. Refute it at one input. -/
def tallyApartWrong : ChangeSpec := { name := "tallyApart", fn := fun _ => fun
  | [d1, d2, d3] => { results := [.lit (.bool false)], args := [d1, d2, d3] }
  | _ => none }
def TallyApartWrongFalsely : Prop := tallyApartRow.holds Try.pinned (OpenSpec.ofChange tallyApartWrong)

/-- 'understudylaw06.TallyPages': WHATEVER THE INPUT: true; the input reads as it did. -/
def tallyPagesSpec : ChangeSpec := { name := "tallyPages", fn := fun _ => fun
  | [d1, d2, d3] => { results := [.lit (.bool true)], args := [d1, d2, d3] }
  | _ => none }
def tallyPagesRow : OpenClaim := { program := "ytiokdpnhaemciaa", sum := "fcbaf4b62bb983a6612c8b07474f6fe4f9cf35cb9f41fee34382b194cfec7c41", func := "understudy/understudylaw06.TallyPages", spec := "tallyPages", apart := false }
def TallyPagesSaid : Prop := tallyPagesRow.holds Try.pinned (OpenSpec.ofChange tallyPagesSpec)

/-- ITS FALSE NEIGHBOUR: 'it returns false'. Refute it at one input. -/
def tallyPagesWrong : ChangeSpec := { name := "tallyPages", fn := fun _ => fun
  | [d1, d2, d3] => { results := [.lit (.bool false)], args := [d1, d2, d3] }
  | _ => none }
def TallyPagesWrongFalsely : Prop := tallyPagesRow.holds Try.pinned (OpenSpec.ofChange tallyPagesWrong)

/-- 'understudylaw06.TallyNames': WHATEVER THE INPUT: true; the input reads as it did. -/
def tallyNamesSpec : ChangeSpec := { name := "tallyNames", fn := fun _ => fun
  | [] => { results := [.lit (.bool true)], args := [] }
  | _ => none }
def tallyNamesRow : OpenClaim := { program := "ytiokdpnhaemciaa", sum := "fcbaf4b62bb983a6612c8b07474f6fe4f9cf35cb9f41fee34382b194cfec7c41", func := "understudy/understudylaw06.TallyNames", spec := "tallyNames", apart := false }
def TallyNamesSaid : Prop := tallyNamesRow.holds Try.pinned (OpenSpec.ofChange tallyNamesSpec)

/-- ITS FALSE NEIGHBOUR: 'it returns false'. Refute it at one input. -/
def tallyNamesWrong : ChangeSpec := { name := "tallyNames", fn := fun _ => fun
  | [] => { results := [.lit (.bool false)], args := [] }
  | _ => none }
def TallyNamesWrongFalsely : Prop := tallyNamesRow.holds Try.pinned (OpenSpec.ofChange tallyNamesWrong)

/-- 'understudylaw06.TallyBack': WHATEVER THE INPUT: true; the input reads as it did. -/
def tallyBackSpec : ChangeSpec := { name := "tallyBack", fn := fun _ => fun
  | [d1, d2, d3] => { results := [.lit (.bool true)], args := [d1, d2, d3] }
  | _ => none }
def tallyBackRow : OpenClaim := { program := "ytiokdpnhaemciaa", sum := "fcbaf4b62bb983a6612c8b07474f6fe4f9cf35cb9f41fee34382b194cfec7c41", func := "understudy/understudylaw06.TallyBack", spec := "tallyBack", apart := false }
def TallyBackSaid : Prop := tallyBackRow.holds Try.pinned (OpenSpec.ofChange tallyBackSpec)

/-- ITS FALSE NEIGHBOUR: 'it returns false'. Refute it at one input. -/
def tallyBackWrong : ChangeSpec := { name := "tallyBack", fn := fun _ => fun
  | [d1, d2, d3] => { results := [.lit (.bool false)], args := [d1, d2, d3] }
  | _ => none }
def TallyBackWrongFalsely : Prop := tallyBackRow.holds Try.pinned (OpenSpec.ofChange tallyBackWrong)

/-- 'understudylaw08.LeafNames': WHATEVER THE INPUT: true; the input reads as it did. -/
def leafNamesSpec : ChangeSpec := { name := "leafNames", fn := fun _ => fun
  | [] => { results := [.lit (.bool true)], args := [] }
  | _ => none }
def leafNamesRow : OpenClaim := { program := "ytiokdpnhaemciaa", sum := "fcbaf4b62bb983a6612c8b07474f6fe4f9cf35cb9f41fee34382b194cfec7c41", func := "understudy/understudylaw08.LeafNames", spec := "leafNames", unfollowed := true, recurses := true, apart := false }
def LeafNamesSaid : Prop := leafNamesRow.holds Try.pinned (OpenSpec.ofChange leafNamesSpec)

/-- ITS FALSE NEIGHBOUR: 'it returns false'. Refute it at one input. -/
def leafNamesWrong : ChangeSpec := { name := "leafNames", fn := fun _ => fun
  | [] => { results := [.lit (.bool false)], args := [] }
  | _ => none }
def LeafNamesWrongFalsely : Prop := leafNamesRow.holds Try.pinned (OpenSpec.ofChange leafNamesWrong)

/-- 'understudylaw08.LeafOpens': WHATEVER THE INPUT: true; the input reads as it did. -/
def leafOpensSpec : ChangeSpec := { name := "leafOpens", fn := fun _ => fun
  | [d] => { results := [.lit (.bool true)], args := [d] }
  | _ => none }
def leafOpensRow : OpenClaim := { program := "ytiokdpnhaemciaa", sum := "fcbaf4b62bb983a6612c8b07474f6fe4f9cf35cb9f41fee34382b194cfec7c41", func := "understudy/understudylaw08.LeafOpens", spec := "leafOpens", unfollowed := true, recurses := true, apart := false }
def LeafOpensSaid : Prop := leafOpensRow.holds Try.pinned (OpenSpec.ofChange leafOpensSpec)

/-- ITS FALSE NEIGHBOUR: 'it returns false'. Refute it at one input. -/
def leafOpensWrong : ChangeSpec := { name := "leafOpens", fn := fun _ => fun
  | [d] => { results := [.lit (.bool false)], args := [d] }
  | _ => none }
def LeafOpensWrongFalsely : Prop := leafOpensRow.holds Try.pinned (OpenSpec.ofChange leafOpensWrong)

/-- 'understudylaw08.LeafPlaces': WHATEVER THE INPUT: true; the input reads as it did. -/
def leafPlacesSpec : ChangeSpec := { name := "leafPlaces", fn := fun _ => fun
  | [d1, d2] => { results := [.lit (.bool true)], args := [d1, d2] }
  | _ => none }
def leafPlacesRow : OpenClaim := { program := "ytiokdpnhaemciaa", sum := "fcbaf4b62bb983a6612c8b07474f6fe4f9cf35cb9f41fee34382b194cfec7c41", func := "understudy/understudylaw08.LeafPlaces", spec := "leafPlaces", unfollowed := true, recurses := true, apart := false }
def LeafPlacesSaid : Prop := leafPlacesRow.holds Try.pinned (OpenSpec.ofChange leafPlacesSpec)

/-- ITS FALSE NEIGHBOUR: 'it returns false'. Refute it at one input. -/
def leafPlacesWrong : ChangeSpec := { name := "leafPlaces", fn := fun _ => fun
  | [d1, d2] => { results := [.lit (.bool false)], args := [d1, d2] }
  | _ => none }
def LeafPlacesWrongFalsely : Prop := leafPlacesRow.holds Try.pinned (OpenSpec.ofChange leafPlacesWrong)

/-- 'understudylaw08.LeafBack': WHATEVER THE INPUT: true; the input reads as it did. -/
def leafBackSpec : ChangeSpec := { name := "leafBack", fn := fun _ => fun
  | [d1, d2, d3] => { results := [.lit (.bool true)], args := [d1, d2, d3] }
  | _ => none }
def leafBackRow : OpenClaim := { program := "ytiokdpnhaemciaa", sum := "fcbaf4b62bb983a6612c8b07474f6fe4f9cf35cb9f41fee34382b194cfec7c41", func := "understudy/understudylaw08.LeafBack", spec := "leafBack", unfollowed := true, recurses := true, apart := false }
def LeafBackSaid : Prop := leafBackRow.holds Try.pinned (OpenSpec.ofChange leafBackSpec)

/-- ITS FALSE NEIGHBOUR: 'it returns false'. Refute it at one input. -/
def leafBackWrong : ChangeSpec := { name := "leafBack", fn := fun _ => fun
  | [d1, d2, d3] => { results := [.lit (.bool false)], args := [d1, d2, d3] }
  | _ => none }
def LeafBackWrongFalsely : Prop := leafBackRow.holds Try.pinned (OpenSpec.ofChange leafBackWrong)

/- THE SECOND FORM. 'bulk': how many values and letters a reading holds, each counted each time it is reached (what is shared counts as often as it is met; a slice's spare places count too). A statement '..UptoSaid' is the law's where the arguments, and the package variables that the reading takes, are together of bulk at most 1048576: NARROWER than '..Said'. Prove '..Said' where nothing that the law and all that it calls make is longer than what came in: it says more and counts as full. Else prove '..UptoSaid'. A law counts once. -/
mutual
def uptoBulk {H : Type} : DataW H → Nat
  | .lit (.string bytes) => bytes.length + 1
  | .lit _ => 1
  | .nil => 1
  | .ptr d => uptoBulk d + 1
  | .slice elems spare => uptoBulkAll elems + uptoBulkAll spare + 1
  | .agg parts => uptoBulkAll parts + 1
  | .iface _ d => uptoBulk d + 1
  | .map entries => uptoBulkEntries entries + 1
  | .held _ => 1
def uptoBulkAll {H : Type} : List (DataW H) → Nat
  | [] => 0
  | d :: r => uptoBulk d + uptoBulkAll r
def uptoBulkEntries {H : Type} : List (Lit × DataW H) → Nat
  | [] => 0
  | x :: r => uptoBulkEntry x + uptoBulkEntries r
def uptoBulkEntry {H : Type} : Lit × DataW H → Nat
  | (.string bytes, d) => bytes.length + uptoBulk d + 1
  | (_, d) => uptoBulk d + 1
 end
def uptoSmall : (H : Type) → List (DataW H) → Bool := fun _ ds => decide (uptoBulkAll ds ≤ 1048576)
def OpenSpec.upto (s : _root_.Go.ChangeSpec) : _root_.Go.OpenSpec := { _root_.Go.OpenSpec.ofChange s with cond := some uptoSmall }

/-- 'understudylaw06.TallyTorn', WHERE WHAT IT READS IS OF BULK AT MOST 1048576: true; the input reads as it did. -/
def tallyTornUptoRow : OpenClaim := { program := "ytiokdpnhaemciaa", sum := "fcbaf4b62bb983a6612c8b07474f6fe4f9cf35cb9f41fee34382b194cfec7c41", func := "understudy/understudylaw06.TallyTorn", spec := "tallyTorn", apart := false, narrowed := true }
def TallyTornUptoSaid : Prop := tallyTornUptoRow.holds Try.pinned (OpenSpec.upto tallyTornSpec)

/-- 'understudylaw06.TallyApart', WHERE WHAT IT READS IS OF BULK AT MOST 1048576: true; the input reads as it did. -/
def tallyApartUptoRow : OpenClaim := { program := "ytiokdpnhaemciaa", sum := "fcbaf4b62bb983a6612c8b07474f6fe4f9cf35cb9f41fee34382b194cfec7c41", func := "understudy/understudylaw06.TallyApart", spec := "tallyApart", apart := false, narrowed := true }
def TallyApartUptoSaid : Prop := tallyApartUptoRow.holds Try.pinned (OpenSpec.upto tallyApartSpec)

/-- 'understudylaw06.TallyPages', WHERE WHAT IT READS IS OF BULK AT MOST 1048576: true; the input reads as it did. -/
def tallyPagesUptoRow : OpenClaim := { program := "ytiokdpnhaemciaa", sum := "fcbaf4b62bb983a6612c8b07474f6fe4f9cf35cb9f41fee34382b194cfec7c41", func := "understudy/understudylaw06.TallyPages", spec := "tallyPages", apart := false, narrowed := true }
def TallyPagesUptoSaid : Prop := tallyPagesUptoRow.holds Try.pinned (OpenSpec.upto tallyPagesSpec)

/-- 'understudylaw06.TallyNames', WHERE WHAT IT READS IS OF BULK AT MOST 1048576: true; the input reads as it did. -/
def tallyNamesUptoRow : OpenClaim := { program := "ytiokdpnhaemciaa", sum := "fcbaf4b62bb983a6612c8b07474f6fe4f9cf35cb9f41fee34382b194cfec7c41", func := "understudy/understudylaw06.TallyNames", spec := "tallyNames", apart := false, narrowed := true }
def TallyNamesUptoSaid : Prop := tallyNamesUptoRow.holds Try.pinned (OpenSpec.upto tallyNamesSpec)

/-- 'understudylaw06.TallyBack', WHERE WHAT IT READS IS OF BULK AT MOST 1048576: true; the input reads as it did. -/
def tallyBackUptoRow : OpenClaim := { program := "ytiokdpnhaemciaa", sum := "fcbaf4b62bb983a6612c8b07474f6fe4f9cf35cb9f41fee34382b194cfec7c41", func := "understudy/understudylaw06.TallyBack", spec := "tallyBack", apart := false, narrowed := true }
def TallyBackUptoSaid : Prop := tallyBackUptoRow.holds Try.pinned (OpenSpec.upto tallyBackSpec)

/-- 'understudylaw08.LeafNames', WHERE WHAT IT READS IS OF BULK AT MOST 1048576: true; the input reads as it did. -/
def leafNamesUptoRow : OpenClaim := { program := "ytiokdpnhaemciaa", sum := "fcbaf4b62bb983a6612c8b07474f6fe4f9cf35cb9f41fee34382b194cfec7c41", func := "understudy/understudylaw08.LeafNames", spec := "leafNames", unfollowed := true, recurses := true, apart := false, narrowed := true }
def LeafNamesUptoSaid : Prop := leafNamesUptoRow.holds Try.pinned (OpenSpec.upto leafNamesSpec)

/-- 'understudylaw08.LeafOpens', WHERE WHAT IT READS IS OF BULK AT MOST 1048576: true; the input reads as it did. -/
def leafOpensUptoRow : OpenClaim := { program := "ytiokdpnhaemciaa", sum := "fcbaf4b62bb983a6612c8b07474f6fe4f9cf35cb9f41fee34382b194cfec7c41", func := "understudy/understudylaw08.LeafOpens", spec := "leafOpens", unfollowed := true, recurses := true, apart := false, narrowed := true }
def LeafOpensUptoSaid : Prop := leafOpensUptoRow.holds Try.pinned (OpenSpec.upto leafOpensSpec)

/-- 'understudylaw08.LeafPlaces', WHERE WHAT IT READS IS OF BULK AT MOST 1048576: true; the input reads as it did. -/
def leafPlacesUptoRow : OpenClaim := { program := "ytiokdpnhaemciaa", sum := "fcbaf4b62bb983a6612c8b07474f6fe4f9cf35cb9f41fee34382b194cfec7c41", func := "understudy/understudylaw08.LeafPlaces", spec := "leafPlaces", unfollowed := true, recurses := true, apart := false, narrowed := true }
def LeafPlacesUptoSaid : Prop := leafPlacesUptoRow.holds Try.pinned (OpenSpec.upto leafPlacesSpec)

/-- 'understudylaw08.LeafBack', WHERE WHAT IT READS IS OF BULK AT MOST 1048576: true; the input reads as it did. -/
def leafBackUptoRow : OpenClaim := { program := "ytiokdpnhaemciaa", sum := "fcbaf4b62bb983a6612c8b07474f6fe4f9cf35cb9f41fee34382b194cfec7c41", func := "understudy/understudylaw08.LeafBack", spec := "leafBack", unfollowed := true, recurses := true, apart := false, narrowed := true }
def LeafBackUptoSaid : Prop := leafBackUptoRow.holds Try.pinned (OpenSpec.upto leafBackSpec)

end Rows
end Go.Proofs.Ytiokdpnhaemciaa
