/-
  No cell of these rows narrows 'for every input' (looked for: loops, veiled, ifaces, maps, wideKeys, modest, calm, conditions, laid).
  DERIVED. THE GIVEN ROWS OF THIS SEAT. 12 by the template 'for every input the law returns true; each argument reads behind the call as it read before'; 0 by the template 'total and deterministic' (their statements: YtkkongnmcfdioaaTotals.lean).
  GIVEN WITH THE SEED: the statements are not yours to turn. If you find one false, say at which input.
  Laid BY PROGRAM, IN A SANDBOX (cutbox-rows.mjs): the forced cells as the released guide's own fill.sh prints them over the translation ee16d7b02968b202… (all of the seat's roots in one cut). By AI agents, Wed Nov 11 2026. No macro, syntax, notation, axiom, sorry.
-/
import Derived.Test.YtkkongnmcfdioaaChecked
import GoSem.Claim
import GoSem.ClaimJoined
import GoSem.ClaimMapViews
import Derived.JoinedTies
import Derived.KernelRfl
namespace Go.Proofs.Ytkkongnmcfdioaa
/- THE CELL 'sum', in the pinned program and in every row, IS THE sha256 OF THE DUMP (.gsa) THAT YtkkongnmcfdioaaProg.lean LOADS. Nothing in Lean hashes anything: it is a label: what it is worth is what the hold of that sum in a sandbox is worth. -/
noncomputable def Try.pinned : Pinned := { name := "ytkkongnmcfdioaa", sum := "ee16d7b02968b202ab1b2baf41f0d70edff39f508b7f02b4a5fcacc5ecf97fa7", checked := Try.checked }
namespace Rows
def none {H : Type} : Left H := { results := [], args := [] }

/-- 'quarantinelaw20.PostAll': WHATEVER THE INPUT: true; the input reads as it did. -/
def postAllSpec : ChangeSpec := { name := "postAll", fn := fun _ => fun
  | [d1, d2] => { results := [.lit (.bool true)], args := [d1, d2] }
  | _ => none }
def postAllRow : OpenClaim := { program := "ytkkongnmcfdioaa", sum := "ee16d7b02968b202ab1b2baf41f0d70edff39f508b7f02b4a5fcacc5ecf97fa7", func := "quarantine/quarantinelaw20.PostAll", spec := "postAll", apart := false }
def PostAllSaid : Prop := postAllRow.holds Try.pinned (OpenSpec.ofChange postAllSpec)

/-- ITS FALSE NEIGHBOUR: 'it returns false'. Refute it at one input. -/
def postAllWrong : ChangeSpec := { name := "postAll", fn := fun _ => fun
  | [d1, d2] => { results := [.lit (.bool false)], args := [d1, d2] }
  | _ => none }
def PostAllWrongFalsely : Prop := postAllRow.holds Try.pinned (OpenSpec.ofChange postAllWrong)

/-- 'quarantinelaw20.PostMerges': WHATEVER THE INPUT: true; the input reads as it did. -/
def postMergesSpec : ChangeSpec := { name := "postMerges", fn := fun _ => fun
  | [d1, d2] => { results := [.lit (.bool true)], args := [d1, d2] }
  | _ => none }
def postMergesRow : OpenClaim := { program := "ytkkongnmcfdioaa", sum := "ee16d7b02968b202ab1b2baf41f0d70edff39f508b7f02b4a5fcacc5ecf97fa7", func := "quarantine/quarantinelaw20.PostMerges", spec := "postMerges", apart := false }
def PostMergesSaid : Prop := postMergesRow.holds Try.pinned (OpenSpec.ofChange postMergesSpec)

/-- ITS FALSE NEIGHBOUR: 'it returns false'. Refute it at one input. -/
def postMergesWrong : ChangeSpec := { name := "postMerges", fn := fun _ => fun
  | [d1, d2] => { results := [.lit (.bool false)], args := [d1, d2] }
  | _ => none }
def PostMergesWrongFalsely : Prop := postMergesRow.holds Try.pinned (OpenSpec.ofChange postMergesWrong)

/-- 'quarantinelaw4.ValueAll': WHATEVER THE INPUT: true; the input reads as it did. -/
def valueAllSpec : ChangeSpec := { name := "valueAll", fn := fun _ => fun
  | [d1, d2, d3] => { results := [.lit (.bool true)], args := [d1, d2, d3] }
  | _ => none }
def valueAllRow : OpenClaim := { program := "ytkkongnmcfdioaa", sum := "ee16d7b02968b202ab1b2baf41f0d70edff39f508b7f02b4a5fcacc5ecf97fa7", func := "quarantine/quarantinelaw4.ValueAll", spec := "valueAll", apart := false }
def ValueAllSaid : Prop := valueAllRow.holds Try.pinned (OpenSpec.ofChange valueAllSpec)

/-- ITS FALSE NEIGHBOUR: 'it returns false'. Refute it at one input. -/
def valueAllWrong : ChangeSpec := { name := "valueAll", fn := fun _ => fun
  | [d1, d2, d3] => { results := [.lit (.bool false)], args := [d1, d2, d3] }
  | _ => none }
def ValueAllWrongFalsely : Prop := valueAllRow.holds Try.pinned (OpenSpec.ofChange valueAllWrong)

/-- 'quarantinelaw4.ValueReads': WHATEVER THE INPUT: true; the input reads as it did. -/
def valueReadsSpec : ChangeSpec := { name := "valueReads", fn := fun _ => fun
  | [d] => { results := [.lit (.bool true)], args := [d] }
  | _ => none }
def valueReadsRow : OpenClaim := { program := "ytkkongnmcfdioaa", sum := "ee16d7b02968b202ab1b2baf41f0d70edff39f508b7f02b4a5fcacc5ecf97fa7", func := "quarantine/quarantinelaw4.ValueReads", spec := "valueReads", apart := false }
def ValueReadsSaid : Prop := valueReadsRow.holds Try.pinned (OpenSpec.ofChange valueReadsSpec)

/-- ITS FALSE NEIGHBOUR: 'it returns false'. Refute it at one input. -/
def valueReadsWrong : ChangeSpec := { name := "valueReads", fn := fun _ => fun
  | [d] => { results := [.lit (.bool false)], args := [d] }
  | _ => none }
def ValueReadsWrongFalsely : Prop := valueReadsRow.holds Try.pinned (OpenSpec.ofChange valueReadsWrong)

/-- 'quarantinelaw4.ValueOrder': WHATEVER THE INPUT: true; the input reads as it did. -/
def valueOrderSpec : ChangeSpec := { name := "valueOrder", fn := fun _ => fun
  | [d1, d2, d3, d4] => { results := [.lit (.bool true)], args := [d1, d2, d3, d4] }
  | _ => none }
def valueOrderRow : OpenClaim := { program := "ytkkongnmcfdioaa", sum := "ee16d7b02968b202ab1b2baf41f0d70edff39f508b7f02b4a5fcacc5ecf97fa7", func := "quarantine/quarantinelaw4.ValueOrder", spec := "valueOrder", apart := false }
def ValueOrderSaid : Prop := valueOrderRow.holds Try.pinned (OpenSpec.ofChange valueOrderSpec)

/-- ITS FALSE NEIGHBOUR: 'it returns false'. Refute it at one input. -/
def valueOrderWrong : ChangeSpec := { name := "valueOrder", fn := fun _ => fun
  | [d1, d2, d3, d4] => { results := [.lit (.bool false)], args := [d1, d2, d3, d4] }
  | _ => none }
def ValueOrderWrongFalsely : Prop := valueOrderRow.holds Try.pinned (OpenSpec.ofChange valueOrderWrong)

/-- 'quarantinelaw4.ValueInts': WHATEVER THE INPUT: true; the input reads as it did. -/
def valueIntsSpec : ChangeSpec := { name := "valueInts", fn := fun _ => fun
  | [d1, d2] => { results := [.lit (.bool true)], args := [d1, d2] }
  | _ => none }
def valueIntsRow : OpenClaim := { program := "ytkkongnmcfdioaa", sum := "ee16d7b02968b202ab1b2baf41f0d70edff39f508b7f02b4a5fcacc5ecf97fa7", func := "quarantine/quarantinelaw4.ValueInts", spec := "valueInts", apart := false }
def ValueIntsSaid : Prop := valueIntsRow.holds Try.pinned (OpenSpec.ofChange valueIntsSpec)

/-- ITS FALSE NEIGHBOUR: 'it returns false'. Refute it at one input. -/
def valueIntsWrong : ChangeSpec := { name := "valueInts", fn := fun _ => fun
  | [d1, d2] => { results := [.lit (.bool false)], args := [d1, d2] }
  | _ => none }
def ValueIntsWrongFalsely : Prop := valueIntsRow.holds Try.pinned (OpenSpec.ofChange valueIntsWrong)

/-- 'quarantinelaw4.ValueTexts': WHATEVER THE INPUT: true; the input reads as it did. -/
def valueTextsSpec : ChangeSpec := { name := "valueTexts", fn := fun _ => fun
  | [d] => { results := [.lit (.bool true)], args := [d] }
  | _ => none }
def valueTextsRow : OpenClaim := { program := "ytkkongnmcfdioaa", sum := "ee16d7b02968b202ab1b2baf41f0d70edff39f508b7f02b4a5fcacc5ecf97fa7", func := "quarantine/quarantinelaw4.ValueTexts", spec := "valueTexts", apart := false }
def ValueTextsSaid : Prop := valueTextsRow.holds Try.pinned (OpenSpec.ofChange valueTextsSpec)

/-- ITS FALSE NEIGHBOUR: 'it returns false'. Refute it at one input. -/
def valueTextsWrong : ChangeSpec := { name := "valueTexts", fn := fun _ => fun
  | [d] => { results := [.lit (.bool false)], args := [d] }
  | _ => none }
def ValueTextsWrongFalsely : Prop := valueTextsRow.holds Try.pinned (OpenSpec.ofChange valueTextsWrong)

/-- 'quarantinelaw5.RowAll': WHATEVER THE INPUT: true; the input reads as it did. -/
def rowAllSpec : ChangeSpec := { name := "rowAll", fn := fun _ => fun
  | [d1, d2] => { results := [.lit (.bool true)], args := [d1, d2] }
  | _ => none }
def rowAllRow : OpenClaim := { program := "ytkkongnmcfdioaa", sum := "ee16d7b02968b202ab1b2baf41f0d70edff39f508b7f02b4a5fcacc5ecf97fa7", func := "quarantine/quarantinelaw5.RowAll", spec := "rowAll", unfollowed := true, recurses := true, apart := false }
def RowAllSaid : Prop := rowAllRow.holds Try.pinned (OpenSpec.ofChange rowAllSpec)

/-- ITS FALSE NEIGHBOUR: 'it returns false'. Refute it at one input. -/
def rowAllWrong : ChangeSpec := { name := "rowAll", fn := fun _ => fun
  | [d1, d2] => { results := [.lit (.bool false)], args := [d1, d2] }
  | _ => none }
def RowAllWrongFalsely : Prop := rowAllRow.holds Try.pinned (OpenSpec.ofChange rowAllWrong)

/-- 'quarantinelaw5.RowBack': WHATEVER THE INPUT: true; the input reads as it did. -/
def rowBackSpec : ChangeSpec := { name := "rowBack", fn := fun _ => fun
  | [d1, d2, d3, d4] => { results := [.lit (.bool true)], args := [d1, d2, d3, d4] }
  | _ => none }
def rowBackRow : OpenClaim := { program := "ytkkongnmcfdioaa", sum := "ee16d7b02968b202ab1b2baf41f0d70edff39f508b7f02b4a5fcacc5ecf97fa7", func := "quarantine/quarantinelaw5.RowBack", spec := "rowBack", unfollowed := true, recurses := true, apart := false }
def RowBackSaid : Prop := rowBackRow.holds Try.pinned (OpenSpec.ofChange rowBackSpec)

/-- ITS FALSE NEIGHBOUR: 'it returns false'. Refute it at one input. -/
def rowBackWrong : ChangeSpec := { name := "rowBack", fn := fun _ => fun
  | [d1, d2, d3, d4] => { results := [.lit (.bool false)], args := [d1, d2, d3, d4] }
  | _ => none }
def RowBackWrongFalsely : Prop := rowBackRow.holds Try.pinned (OpenSpec.ofChange rowBackWrong)

/-- 'quarantinelaw5.RowApart': WHATEVER THE INPUT: true; the input reads as it did. -/
def rowApartSpec : ChangeSpec := { name := "rowApart", fn := fun _ => fun
  | [d1, d2, d3, d4] => { results := [.lit (.bool true)], args := [d1, d2, d3, d4] }
  | _ => none }
def rowApartRow : OpenClaim := { program := "ytkkongnmcfdioaa", sum := "ee16d7b02968b202ab1b2baf41f0d70edff39f508b7f02b4a5fcacc5ecf97fa7", func := "quarantine/quarantinelaw5.RowApart", spec := "rowApart", unfollowed := true, recurses := true, apart := false }
def RowApartSaid : Prop := rowApartRow.holds Try.pinned (OpenSpec.ofChange rowApartSpec)

/-- ITS FALSE NEIGHBOUR: 'it returns false'. Refute it at one input. -/
def rowApartWrong : ChangeSpec := { name := "rowApart", fn := fun _ => fun
  | [d1, d2, d3, d4] => { results := [.lit (.bool false)], args := [d1, d2, d3, d4] }
  | _ => none }
def RowApartWrongFalsely : Prop := rowApartRow.holds Try.pinned (OpenSpec.ofChange rowApartWrong)

/-- 'quarantinelaw16.IndexAll': WHATEVER THE INPUT: true; the input reads as it did. -/
def indexAllSpec : ChangeSpec := { name := "indexAll", fn := fun _ => fun
  | [d1, d2, d3, d4] => { results := [.lit (.bool true)], args := [d1, d2, d3, d4] }
  | _ => none }
def indexAllRow : OpenClaim := { program := "ytkkongnmcfdioaa", sum := "ee16d7b02968b202ab1b2baf41f0d70edff39f508b7f02b4a5fcacc5ecf97fa7", func := "quarantine/quarantinelaw16.IndexAll", spec := "indexAll", unfollowed := true, recurses := true, apart := false }
def IndexAllSaid : Prop := indexAllRow.holds Try.pinned (OpenSpec.ofChange indexAllSpec)

/-- ITS FALSE NEIGHBOUR: 'it returns false'. Refute it at one input. -/
def indexAllWrong : ChangeSpec := { name := "indexAll", fn := fun _ => fun
  | [d1, d2, d3, d4] => { results := [.lit (.bool false)], args := [d1, d2, d3, d4] }
  | _ => none }
def IndexAllWrongFalsely : Prop := indexAllRow.holds Try.pinned (OpenSpec.ofChange indexAllWrong)

/-- 'quarantinelaw16.IndexOrder': WHATEVER THE INPUT: true; the input reads as it did. -/
def indexOrderSpec : ChangeSpec := { name := "indexOrder", fn := fun _ => fun
  | [d1, d2, d3, d4, d5, d6, d7] => { results := [.lit (.bool true)], args := [d1, d2, d3, d4, d5, d6, d7] }
  | _ => none }
def indexOrderRow : OpenClaim := { program := "ytkkongnmcfdioaa", sum := "ee16d7b02968b202ab1b2baf41f0d70edff39f508b7f02b4a5fcacc5ecf97fa7", func := "quarantine/quarantinelaw16.IndexOrder", spec := "indexOrder", unfollowed := true, recurses := true, apart := false }
def IndexOrderSaid : Prop := indexOrderRow.holds Try.pinned (OpenSpec.ofChange indexOrderSpec)

/-- ITS FALSE NEIGHBOUR: 'it returns false'. Refute it at one input. -/
def indexOrderWrong : ChangeSpec := { name := "indexOrder", fn := fun _ => fun
  | [d1, d2, d3, d4, d5, d6, d7] => { results := [.lit (.bool false)], args := [d1, d2, d3, d4, d5, d6, d7] }
  | _ => none }
def IndexOrderWrongFalsely : Prop := indexOrderRow.holds Try.pinned (OpenSpec.ofChange indexOrderWrong)

/- THE SECOND FORM. 'bulk': how many values and letters a reading holds, each counted each time it is reached (what is shared counts as often as it is met; a slice's spare places count too). A statement '..UptoSaid' is the law's where the arguments, and the package variables that the reading takes, are together of bulk at most 1048576: NARROWER than '..Said'. Prove '..Said' where nothing that the law and all that it calls make is longer than what came in: it says more and counts as full. Else prove '..UptoSaid'. A law counts once. -/
mutual
def uptoBulk {H : Type} : DataW H → Nat
  | .lit (.string bytes) => bytes.length + 1
  | .lit _ => 1
  | .nil => 1
  | .ptr d => uptoBulk d + 1
  | .slice elems spare => uptoBulkAll elems + uptoBulkAll spare + 1
  | .agg parts => uptoBulkAll parts + 1
  | .iface _ d => uptoBulk d + 1
  | .map entries => uptoBulkEntries entries + 1
  | .held _ => 1
def uptoBulkAll {H : Type} : List (DataW H) → Nat
  | [] => 0
  | d :: r => uptoBulk d + uptoBulkAll r
def uptoBulkEntries {H : Type} : List (Lit × DataW H) → Nat
  | [] => 0
  | x :: r => uptoBulkEntry x + uptoBulkEntries r
def uptoBulkEntry {H : Type} : Lit × DataW H → Nat
  | (.string bytes, d) => bytes.length + uptoBulk d + 1
  | (_, d) => uptoBulk d + 1
 end
def uptoSmall : (H : Type) → List (DataW H) → Bool := fun _ ds => decide (uptoBulkAll ds ≤ 1048576)
def OpenSpec.upto (s : _root_.Go.ChangeSpec) : _root_.Go.OpenSpec := { _root_.Go.OpenSpec.ofChange s with cond := some uptoSmall }

/-- 'quarantinelaw20.PostAll', WHERE WHAT IT READS IS OF BULK AT MOST 1048576: true; the input reads as it did. -/
def postAllUptoRow : OpenClaim := { program := "ytkkongnmcfdioaa", sum := "ee16d7b02968b202ab1b2baf41f0d70edff39f508b7f02b4a5fcacc5ecf97fa7", func := "quarantine/quarantinelaw20.PostAll", spec := "postAll", apart := false, narrowed := true }
def PostAllUptoSaid : Prop := postAllUptoRow.holds Try.pinned (OpenSpec.upto postAllSpec)

/-- 'quarantinelaw20.PostMerges', WHERE WHAT IT READS IS OF BULK AT MOST 1048576: true; the input reads as it did. -/
def postMergesUptoRow : OpenClaim := { program := "ytkkongnmcfdioaa", sum := "ee16d7b02968b202ab1b2baf41f0d70edff39f508b7f02b4a5fcacc5ecf97fa7", func := "quarantine/quarantinelaw20.PostMerges", spec := "postMerges", apart := false, narrowed := true }
def PostMergesUptoSaid : Prop := postMergesUptoRow.holds Try.pinned (OpenSpec.upto postMergesSpec)

/-- 'quarantinelaw4.ValueAll', WHERE WHAT IT READS IS OF BULK AT MOST 1048576: true; the input reads as it did. -/
def valueAllUptoRow : OpenClaim := { program := "ytkkongnmcfdioaa", sum := "ee16d7b02968b202ab1b2baf41f0d70edff39f508b7f02b4a5fcacc5ecf97fa7", func := "quarantine/quarantinelaw4.ValueAll", spec := "valueAll", apart := false, narrowed := true }
def ValueAllUptoSaid : Prop := valueAllUptoRow.holds Try.pinned (OpenSpec.upto valueAllSpec)

/-- 'quarantinelaw4.ValueReads', WHERE WHAT IT READS IS OF BULK AT MOST 1048576: true; the input reads as it did. -/
def valueReadsUptoRow : OpenClaim := { program := "ytkkongnmcfdioaa", sum := "ee16d7b02968b202ab1b2baf41f0d70edff39f508b7f02b4a5fcacc5ecf97fa7", func := "quarantine/quarantinelaw4.ValueReads", spec := "valueReads", apart := false, narrowed := true }
def ValueReadsUptoSaid : Prop := valueReadsUptoRow.holds Try.pinned (OpenSpec.upto valueReadsSpec)

/-- 'quarantinelaw4.ValueOrder', WHERE WHAT IT READS IS OF BULK AT MOST 1048576: true; the input reads as it did. -/
def valueOrderUptoRow : OpenClaim := { program := "ytkkongnmcfdioaa", sum := "ee16d7b02968b202ab1b2baf41f0d70edff39f508b7f02b4a5fcacc5ecf97fa7", func := "quarantine/quarantinelaw4.ValueOrder", spec := "valueOrder", apart := false, narrowed := true }
def ValueOrderUptoSaid : Prop := valueOrderUptoRow.holds Try.pinned (OpenSpec.upto valueOrderSpec)

/-- 'quarantinelaw4.ValueInts', WHERE WHAT IT READS IS OF BULK AT MOST 1048576: true; the input reads as it did. -/
def valueIntsUptoRow : OpenClaim := { program := "ytkkongnmcfdioaa", sum := "ee16d7b02968b202ab1b2baf41f0d70edff39f508b7f02b4a5fcacc5ecf97fa7", func := "quarantine/quarantinelaw4.ValueInts", spec := "valueInts", apart := false, narrowed := true }
def ValueIntsUptoSaid : Prop := valueIntsUptoRow.holds Try.pinned (OpenSpec.upto valueIntsSpec)

/-- 'quarantinelaw4.ValueTexts', WHERE WHAT IT READS IS OF BULK AT MOST 1048576: true; the input reads as it did. -/
def valueTextsUptoRow : OpenClaim := { program := "ytkkongnmcfdioaa", sum := "ee16d7b02968b202ab1b2baf41f0d70edff39f508b7f02b4a5fcacc5ecf97fa7", func := "quarantine/quarantinelaw4.ValueTexts", spec := "valueTexts", apart := false, narrowed := true }
def ValueTextsUptoSaid : Prop := valueTextsUptoRow.holds Try.pinned (OpenSpec.upto valueTextsSpec)

/-- 'quarantinelaw5.RowAll', WHERE WHAT IT READS IS OF BULK AT MOST 1048576: true; the input reads as it did. -/
def rowAllUptoRow : OpenClaim := { program := "ytkkongnmcfdioaa", sum := "ee16d7b02968b202ab1b2baf41f0d70edff39f508b7f02b4a5fcacc5ecf97fa7", func := "quarantine/quarantinelaw5.RowAll", spec := "rowAll", unfollowed := true, recurses := true, apart := false, narrowed := true }
def RowAllUptoSaid : Prop := rowAllUptoRow.holds Try.pinned (OpenSpec.upto rowAllSpec)

/-- 'quarantinelaw5.RowBack', WHERE WHAT IT READS IS OF BULK AT MOST 1048576: true; the input reads as it did. -/
def rowBackUptoRow : OpenClaim := { program := "ytkkongnmcfdioaa", sum := "ee16d7b02968b202ab1b2baf41f0d70edff39f508b7f02b4a5fcacc5ecf97fa7", func := "quarantine/quarantinelaw5.RowBack", spec := "rowBack", unfollowed := true, recurses := true, apart := false, narrowed := true }
def RowBackUptoSaid : Prop := rowBackUptoRow.holds Try.pinned (OpenSpec.upto rowBackSpec)

/-- 'quarantinelaw5.RowApart', WHERE WHAT IT READS IS OF BULK AT MOST 1048576: true; the input reads as it did. -/
def rowApartUptoRow : OpenClaim := { program := "ytkkongnmcfdioaa", sum := "ee16d7b02968b202ab1b2baf41f0d70edff39f508b7f02b4a5fcacc5ecf97fa7", func := "quarantine/quarantinelaw5.RowApart", spec := "rowApart", unfollowed := true, recurses := true, apart := false, narrowed := true }
def RowApartUptoSaid : Prop := rowApartUptoRow.holds Try.pinned (OpenSpec.upto rowApartSpec)

/-- 'quarantinelaw16.IndexAll', WHERE WHAT IT READS IS OF BULK AT MOST 1048576: true; the input reads as it did. -/
def indexAllUptoRow : OpenClaim := { program := "ytkkongnmcfdioaa", sum := "ee16d7b02968b202ab1b2baf41f0d70edff39f508b7f02b4a5fcacc5ecf97fa7", func := "quarantine/quarantinelaw16.IndexAll", spec := "indexAll", unfollowed := true, recurses := true, apart := false, narrowed := true }
def IndexAllUptoSaid : Prop := indexAllUptoRow.holds Try.pinned (OpenSpec.upto indexAllSpec)

/-- 'quarantinelaw16.IndexOrder', WHERE WHAT IT READS IS OF BULK AT MOST 1048576: true; the input reads as it did. -/
def indexOrderUptoRow : OpenClaim := { program := "ytkkongnmcfdioaa", sum := "ee16d7b02968b202ab1b2baf41f0d70edff39f508b7f02b4a5fcacc5ecf97fa7", func := "quarantine/quarantinelaw16.IndexOrder", spec := "indexOrder", unfollowed := true, recurses := true, apart := false, narrowed := true }
def IndexOrderUptoSaid : Prop := indexOrderUptoRow.holds Try.pinned (OpenSpec.upto indexOrderSpec)

end Rows
end Go.Proofs.Ytkkongnmcfdioaa
