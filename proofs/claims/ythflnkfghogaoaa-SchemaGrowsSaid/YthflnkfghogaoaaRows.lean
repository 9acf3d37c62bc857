/-
  NARROWER THAN 'FOR EVERY INPUT', by the rows' own cells (each row's printed sentence says how): TypedKinds: loops.
  DERIVED. THE GIVEN ROWS OF THIS SEAT. 9 by the template 'for every input the law returns true; each argument reads behind the call as it read before'; 0 by the template 'total and deterministic' (their statements: YthflnkfghogaoaaTotals.lean).
  GIVEN WITH THE SEED: the statements are not yours to turn. If you find one false, say at which input.
  Laid BY PROGRAM, IN A SANDBOX (cutbox-rows.mjs): the forced cells as the released guide's own fill.sh prints them over the translation 5150bccd1985733d… (all of the seat's roots in one cut). By AI agents, Wed Nov 11 2026. No macro, syntax, notation, axiom, sorry.
-/
import Derived.Test.YthflnkfghogaoaaChecked
import GoSem.Claim
import GoSem.ClaimJoined
import GoSem.ClaimMapViews
import Derived.JoinedTies
import Derived.KernelRfl
namespace Go.Proofs.Ythflnkfghogaoaa
/- THE CELL 'sum', in the pinned program and in every row, IS THE sha256 OF THE DUMP (.gsa) THAT YthflnkfghogaoaaProg.lean LOADS. Nothing in Lean hashes anything: it is a label: what it is worth is what the hold of that sum in a sandbox is worth. -/
noncomputable def Try.pinned : Pinned := { name := "ythflnkfghogaoaa", sum := "5150bccd1985733df56b0853aa5b37c8d1ede5e36803dbe98d5aa7ec6eb0c0c7", checked := Try.checked }
namespace Rows
def none {H : Type} : Left H := { results := [], args := [] }

/-- 'quarantinelaw10.TypedKinds': WHATEVER THE INPUT: true; the input reads as it did. -/
def typedKindsSpec : ChangeSpec := { name := "typedKinds", fn := fun _ => fun
  | [d1, d2, d3] => { results := [.lit (.bool true)], args := [d1, d2, d3] }
  | _ => none }
def typedKindsRow : OpenClaim := { program := "ythflnkfghogaoaa", sum := "5150bccd1985733df56b0853aa5b37c8d1ede5e36803dbe98d5aa7ec6eb0c0c7", func := "quarantine/quarantinelaw10.TypedKinds", spec := "typedKinds", unfollowed := true, recurses := true, loops := true, apart := false }
def TypedKindsSaid : Prop := typedKindsRow.holds Try.pinned (OpenSpec.ofChange typedKindsSpec)

/-- ITS FALSE NEIGHBOUR: 'it returns false'. Refute it at one input. -/
def typedKindsWrong : ChangeSpec := { name := "typedKinds", fn := fun _ => fun
  | [d1, d2, d3] => { results := [.lit (.bool false)], args := [d1, d2, d3] }
  | _ => none }
def TypedKindsWrongFalsely : Prop := typedKindsRow.holds Try.pinned (OpenSpec.ofChange typedKindsWrong)

/-- 'quarantinelaw10.TypedMade': WHATEVER THE INPUT: true; the input reads as it did. -/
def typedMadeSpec : ChangeSpec := { name := "typedMade", fn := fun _ => fun
  | [d1, d2] => { results := [.lit (.bool true)], args := [d1, d2] }
  | _ => none }
def typedMadeRow : OpenClaim := { program := "ythflnkfghogaoaa", sum := "5150bccd1985733df56b0853aa5b37c8d1ede5e36803dbe98d5aa7ec6eb0c0c7", func := "quarantine/quarantinelaw10.TypedMade", spec := "typedMade", unfollowed := true, recurses := true, apart := false }
def TypedMadeSaid : Prop := typedMadeRow.holds Try.pinned (OpenSpec.ofChange typedMadeSpec)

/-- ITS FALSE NEIGHBOUR: 'it returns false'. Refute it at one input. -/
def typedMadeWrong : ChangeSpec := { name := "typedMade", fn := fun _ => fun
  | [d1, d2] => { results := [.lit (.bool false)], args := [d1, d2] }
  | _ => none }
def TypedMadeWrongFalsely : Prop := typedMadeRow.holds Try.pinned (OpenSpec.ofChange typedMadeWrong)

/-- 'quarantinelaw10.TypedWhole': WHATEVER THE INPUT: true; the input reads as it did. -/
def typedWholeSpec : ChangeSpec := { name := "typedWhole", fn := fun _ => fun
  | [d1, d2] => { results := [.lit (.bool true)], args := [d1, d2] }
  | _ => none }
def typedWholeRow : OpenClaim := { program := "ythflnkfghogaoaa", sum := "5150bccd1985733df56b0853aa5b37c8d1ede5e36803dbe98d5aa7ec6eb0c0c7", func := "quarantine/quarantinelaw10.TypedWhole", spec := "typedWhole", unfollowed := true, recurses := true, apart := false }
def TypedWholeSaid : Prop := typedWholeRow.holds Try.pinned (OpenSpec.ofChange typedWholeSpec)

/-- ITS FALSE NEIGHBOUR: 'it returns false'. Refute it at one input. -/
def typedWholeWrong : ChangeSpec := { name := "typedWhole", fn := fun _ => fun
  | [d1, d2] => { results := [.lit (.bool false)], args := [d1, d2] }
  | _ => none }
def TypedWholeWrongFalsely : Prop := typedWholeRow.holds Try.pinned (OpenSpec.ofChange typedWholeWrong)

/-- 'quarantinelaw10.TypedNames': WHATEVER THE INPUT: true; the input reads as it did. -/
def typedNamesSpec : ChangeSpec := { name := "typedNames", fn := fun _ => fun
  | [d1, d2, d3] => { results := [.lit (.bool true)], args := [d1, d2, d3] }
  | _ => none }
def typedNamesRow : OpenClaim := { program := "ythflnkfghogaoaa", sum := "5150bccd1985733df56b0853aa5b37c8d1ede5e36803dbe98d5aa7ec6eb0c0c7", func := "quarantine/quarantinelaw10.TypedNames", spec := "typedNames", unfollowed := true, recurses := true, apart := false }
def TypedNamesSaid : Prop := typedNamesRow.holds Try.pinned (OpenSpec.ofChange typedNamesSpec)

/-- ITS FALSE NEIGHBOUR: 'it returns false'. Refute it at one input. -/
def typedNamesWrong : ChangeSpec := { name := "typedNames", fn := fun _ => fun
  | [d1, d2, d3] => { results := [.lit (.bool false)], args := [d1, d2, d3] }
  | _ => none }
def TypedNamesWrongFalsely : Prop := typedNamesRow.holds Try.pinned (OpenSpec.ofChange typedNamesWrong)

/-- 'quarantinelaw10.TypedKeys': WHATEVER THE INPUT: true; the input reads as it did. -/
def typedKeysSpec : ChangeSpec := { name := "typedKeys", fn := fun _ => fun
  | [d1, d2, d3] => { results := [.lit (.bool true)], args := [d1, d2, d3] }
  | _ => none }
def typedKeysRow : OpenClaim := { program := "ythflnkfghogaoaa", sum := "5150bccd1985733df56b0853aa5b37c8d1ede5e36803dbe98d5aa7ec6eb0c0c7", func := "quarantine/quarantinelaw10.TypedKeys", spec := "typedKeys", unfollowed := true, recurses := true, apart := false }
def TypedKeysSaid : Prop := typedKeysRow.holds Try.pinned (OpenSpec.ofChange typedKeysSpec)

/-- ITS FALSE NEIGHBOUR: 'it returns false'. Refute it at one input. -/
def typedKeysWrong : ChangeSpec := { name := "typedKeys", fn := fun _ => fun
  | [d1, d2, d3] => { results := [.lit (.bool false)], args := [d1, d2, d3] }
  | _ => none }
def TypedKeysWrongFalsely : Prop := typedKeysRow.holds Try.pinned (OpenSpec.ofChange typedKeysWrong)

/-- 'quarantinelaw10.TypedAggs': WHATEVER THE INPUT: true; the input reads as it did. -/
def typedAggsSpec : ChangeSpec := { name := "typedAggs", fn := fun _ => fun
  | [d1, d2, d3, d4] => { results := [.lit (.bool true)], args := [d1, d2, d3, d4] }
  | _ => none }
def typedAggsRow : OpenClaim := { program := "ythflnkfghogaoaa", sum := "5150bccd1985733df56b0853aa5b37c8d1ede5e36803dbe98d5aa7ec6eb0c0c7", func := "quarantine/quarantinelaw10.TypedAggs", spec := "typedAggs", unfollowed := true, recurses := true, apart := false }
def TypedAggsSaid : Prop := typedAggsRow.holds Try.pinned (OpenSpec.ofChange typedAggsSpec)

/-- ITS FALSE NEIGHBOUR: 'it returns false'. Refute it at one input. -/
def typedAggsWrong : ChangeSpec := { name := "typedAggs", fn := fun _ => fun
  | [d1, d2, d3, d4] => { results := [.lit (.bool false)], args := [d1, d2, d3, d4] }
  | _ => none }
def TypedAggsWrongFalsely : Prop := typedAggsRow.holds Try.pinned (OpenSpec.ofChange typedAggsWrong)

/-- 'quarantinelaw9.SchemaMost': WHATEVER THE INPUT: true; the input reads as it did. -/
def schemaMostSpec : ChangeSpec := { name := "schemaMost", fn := fun _ => fun
  | [d1, d2] => { results := [.lit (.bool true)], args := [d1, d2] }
  | _ => none }
def schemaMostRow : OpenClaim := { program := "ythflnkfghogaoaa", sum := "5150bccd1985733df56b0853aa5b37c8d1ede5e36803dbe98d5aa7ec6eb0c0c7", func := "quarantine/quarantinelaw9.SchemaMost", spec := "schemaMost", unfollowed := true, recurses := true, apart := false }
def SchemaMostSaid : Prop := schemaMostRow.holds Try.pinned (OpenSpec.ofChange schemaMostSpec)

/-- ITS FALSE NEIGHBOUR: 'it returns false'. Refute it at one input. -/
def schemaMostWrong : ChangeSpec := { name := "schemaMost", fn := fun _ => fun
  | [d1, d2] => { results := [.lit (.bool false)], args := [d1, d2] }
  | _ => none }
def SchemaMostWrongFalsely : Prop := schemaMostRow.holds Try.pinned (OpenSpec.ofChange schemaMostWrong)

/-- 'quarantinelaw9.SchemaRefs': WHATEVER THE INPUT: true; the input reads as it did. -/
def schemaRefsSpec : ChangeSpec := { name := "schemaRefs", fn := fun _ => fun
  | [d1, d2, d3, d4] => { results := [.lit (.bool true)], args := [d1, d2, d3, d4] }
  | _ => none }
def schemaRefsRow : OpenClaim := { program := "ythflnkfghogaoaa", sum := "5150bccd1985733df56b0853aa5b37c8d1ede5e36803dbe98d5aa7ec6eb0c0c7", func := "quarantine/quarantinelaw9.SchemaRefs", spec := "schemaRefs", unfollowed := true, recurses := true, apart := false }
def SchemaRefsSaid : Prop := schemaRefsRow.holds Try.pinned (OpenSpec.ofChange schemaRefsSpec)

/-- ITS FALSE NEIGHBOUR: 'it returns false'. Refute it at one input. -/
def schemaRefsWrong : ChangeSpec := { name := "schemaRefs", fn := fun _ => fun
  | [d1, d2, d3, d4] => { results := [.lit (.bool false)], args := [d1, d2, d3, d4] }
  | _ => none }
def SchemaRefsWrongFalsely : Prop := schemaRefsRow.holds Try.pinned (OpenSpec.ofChange schemaRefsWrong)

/-- 'quarantinelaw9.SchemaGrows': WHATEVER THE INPUT: true; the input reads as it did. -/
def schemaGrowsSpec : ChangeSpec := { name := "schemaGrows", fn := fun _ => fun
  | [d] => { results := [.lit (.bool true)], args := [d] }
  | _ => none }
def schemaGrowsRow : OpenClaim := { program := "ythflnkfghogaoaa", sum := "5150bccd1985733df56b0853aa5b37c8d1ede5e36803dbe98d5aa7ec6eb0c0c7", func := "quarantine/quarantinelaw9.SchemaGrows", spec := "schemaGrows", unfollowed := true, recurses := true, apart := false }
def SchemaGrowsSaid : Prop := schemaGrowsRow.holds Try.pinned (OpenSpec.ofChange schemaGrowsSpec)

/-- ITS FALSE NEIGHBOUR: 'it returns false'. Refute it at one input. -/
def schemaGrowsWrong : ChangeSpec := { name := "schemaGrows", fn := fun _ => fun
  | [d] => { results := [.lit (.bool false)], args := [d] }
  | _ => none }
def SchemaGrowsWrongFalsely : Prop := schemaGrowsRow.holds Try.pinned (OpenSpec.ofChange schemaGrowsWrong)

/- THE SECOND FORM. 'bulk': how many values and letters a reading holds, each counted each time it is reached (what is shared counts as often as it is met; a slice's spare places count too). A statement '..UptoSaid' is the law's where the arguments, and the package variables that the reading takes, are together of bulk at most 1048576: NARROWER than '..Said'. Prove '..Said' where nothing that the law and all that it calls make is longer than what came in: it says more and counts as full. Else prove '..UptoSaid'. A law counts once. -/
mutual
def uptoBulk {H : Type} : DataW H → Nat
  | .lit (.string bytes) => bytes.length + 1
  | .lit _ => 1
  | .nil => 1
  | .ptr d => uptoBulk d + 1
  | .slice elems spare => uptoBulkAll elems + uptoBulkAll spare + 1
  | .agg parts => uptoBulkAll parts + 1
  | .iface _ d => uptoBulk d + 1
  | .map entries => uptoBulkEntries entries + 1
  | .held _ => 1
def uptoBulkAll {H : Type} : List (DataW H) → Nat
  | [] => 0
  | d :: r => uptoBulk d + uptoBulkAll r
def uptoBulkEntries {H : Type} : List (Lit × DataW H) → Nat
  | [] => 0
  | x :: r => uptoBulkEntry x + uptoBulkEntries r
def uptoBulkEntry {H : Type} : Lit × DataW H → Nat
  | (.string bytes, d) => bytes.length + uptoBulk d + 1
  | (_, d) => uptoBulk d + 1
 end
def uptoSmall : (H : Type) → List (DataW H) → Bool := fun _ ds => decide (uptoBulkAll ds ≤ 1048576)
def OpenSpec.upto (s : _root_.Go.ChangeSpec) : _root_.Go.OpenSpec := { _root_.Go.OpenSpec.ofChange s with cond := some uptoSmall }

/-- 'quarantinelaw10.TypedKinds', WHERE WHAT IT READS IS OF BULK AT MOST 1048576: true; the input reads as it did. -/
def typedKindsUptoRow : OpenClaim := { program := "ythflnkfghogaoaa", sum := "5150bccd1985733df56b0853aa5b37c8d1ede5e36803dbe98d5aa7ec6eb0c0c7", func := "quarantine/quarantinelaw10.TypedKinds", spec := "typedKinds", unfollowed := true, recurses := true, loops := true, apart := false, narrowed := true }
def TypedKindsUptoSaid : Prop := typedKindsUptoRow.holds Try.pinned (OpenSpec.upto typedKindsSpec)

/-- 'quarantinelaw10.TypedMade', WHERE WHAT IT READS IS OF BULK AT MOST 1048576: true; the input reads as it did. -/
def typedMadeUptoRow : OpenClaim := { program := "ythflnkfghogaoaa", sum := "5150bccd1985733df56b0853aa5b37c8d1ede5e36803dbe98d5aa7ec6eb0c0c7", func := "quarantine/quarantinelaw10.TypedMade", spec := "typedMade", unfollowed := true, recurses := true, apart := false, narrowed := true }
def TypedMadeUptoSaid : Prop := typedMadeUptoRow.holds Try.pinned (OpenSpec.upto typedMadeSpec)

/-- 'quarantinelaw10.TypedWhole', WHERE WHAT IT READS IS OF BULK AT MOST 1048576: true; the input reads as it did. -/
def typedWholeUptoRow : OpenClaim := { program := "ythflnkfghogaoaa", sum := "5150bccd1985733df56b0853aa5b37c8d1ede5e36803dbe98d5aa7ec6eb0c0c7", func := "quarantine/quarantinelaw10.TypedWhole", spec := "typedWhole", unfollowed := true, recurses := true, apart := false, narrowed := true }
def TypedWholeUptoSaid : Prop := typedWholeUptoRow.holds Try.pinned (OpenSpec.upto typedWholeSpec)

/-- 'quarantinelaw10.TypedNames', WHERE WHAT IT READS IS OF BULK AT MOST 1048576: true; the input reads as it did. -/
def typedNamesUptoRow : OpenClaim := { program := "ythflnkfghogaoaa", sum := "5150bccd1985733df56b0853aa5b37c8d1ede5e36803dbe98d5aa7ec6eb0c0c7", func := "quarantine/quarantinelaw10.TypedNames", spec := "typedNames", unfollowed := true, recurses := true, apart := false, narrowed := true }
def TypedNamesUptoSaid : Prop := typedNamesUptoRow.holds Try.pinned (OpenSpec.upto typedNamesSpec)

/-- 'quarantinelaw10.TypedKeys', WHERE WHAT IT READS IS OF BULK AT MOST 1048576: true; the input reads as it did. -/
def typedKeysUptoRow : OpenClaim := { program := "ythflnkfghogaoaa", sum := "5150bccd1985733df56b0853aa5b37c8d1ede5e36803dbe98d5aa7ec6eb0c0c7", func := "quarantine/quarantinelaw10.TypedKeys", spec := "typedKeys", unfollowed := true, recurses := true, apart := false, narrowed := true }
def TypedKeysUptoSaid : Prop := typedKeysUptoRow.holds Try.pinned (OpenSpec.upto typedKeysSpec)

/-- 'quarantinelaw10.TypedAggs', WHERE WHAT IT READS IS OF BULK AT MOST 1048576: true; the input reads as it did. -/
def typedAggsUptoRow : OpenClaim := { program := "ythflnkfghogaoaa", sum := "5150bccd1985733df56b0853aa5b37c8d1ede5e36803dbe98d5aa7ec6eb0c0c7", func := "quarantine/quarantinelaw10.TypedAggs", spec := "typedAggs", unfollowed := true, recurses := true, apart := false, narrowed := true }
def TypedAggsUptoSaid : Prop := typedAggsUptoRow.holds Try.pinned (OpenSpec.upto typedAggsSpec)

/-- 'quarantinelaw9.SchemaMost', WHERE WHAT IT READS IS OF BULK AT MOST 1048576: true; the input reads as it did. -/
def schemaMostUptoRow : OpenClaim := { program := "ythflnkfghogaoaa", sum := "5150bccd1985733df56b0853aa5b37c8d1ede5e36803dbe98d5aa7ec6eb0c0c7", func := "quarantine/quarantinelaw9.SchemaMost", spec := "schemaMost", unfollowed := true, recurses := true, apart := false, narrowed := true }
def SchemaMostUptoSaid : Prop := schemaMostUptoRow.holds Try.pinned (OpenSpec.upto schemaMostSpec)

/-- 'quarantinelaw9.SchemaRefs', WHERE WHAT IT READS IS OF BULK AT MOST 1048576: true; the input reads as it did. -/
def schemaRefsUptoRow : OpenClaim := { program := "ythflnkfghogaoaa", sum := "5150bccd1985733df56b0853aa5b37c8d1ede5e36803dbe98d5aa7ec6eb0c0c7", func := "quarantine/quarantinelaw9.SchemaRefs", spec := "schemaRefs", unfollowed := true, recurses := true, apart := false, narrowed := true }
def SchemaRefsUptoSaid : Prop := schemaRefsUptoRow.holds Try.pinned (OpenSpec.upto schemaRefsSpec)

/-- 'quarantinelaw9.SchemaGrows', WHERE WHAT IT READS IS OF BULK AT MOST 1048576: true; the input reads as it did. -/
def schemaGrowsUptoRow : OpenClaim := { program := "ythflnkfghogaoaa", sum := "5150bccd1985733df56b0853aa5b37c8d1ede5e36803dbe98d5aa7ec6eb0c0c7", func := "quarantine/quarantinelaw9.SchemaGrows", spec := "schemaGrows", unfollowed := true, recurses := true, apart := false, narrowed := true }
def SchemaGrowsUptoSaid : Prop := schemaGrowsUptoRow.holds Try.pinned (OpenSpec.upto schemaGrowsSpec)

end Rows
end Go.Proofs.Ythflnkfghogaoaa
