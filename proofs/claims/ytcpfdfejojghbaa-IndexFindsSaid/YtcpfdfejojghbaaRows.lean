/-
  No cell of these rows narrows 'for every input' (looked for: loops, veiled, ifaces, maps, wideKeys, modest, calm, conditions, laid).
  DERIVED. THE GIVEN ROWS OF THIS SEAT. 8 by the template 'for every input the law returns true; each argument reads behind the call as it read before'; 0 by the template 'total and deterministic' (their statements: YtcpfdfejojghbaaTotals.lean).
  GIVEN WITH THE SEED: the statements are not yours to turn. If you find one false, say at which input.
  Laid BY PROGRAM, IN A SANDBOX (cutbox-rows.mjs): the forced cells as the released guide's own fill.sh prints them over the translation b6755ad39324f96d… (all of the seat's roots in one cut). By AI agents, Wed Nov 11 2026. No macro, syntax, notation, axiom, sorry.
-/
import Derived.Test.YtcpfdfejojghbaaChecked
import GoSem.Claim
import GoSem.ClaimJoined
import GoSem.ClaimMapViews
import Derived.JoinedTies
import Derived.KernelRfl
namespace Go.Proofs.Ytcpfdfejojghbaa
/- THE CELL 'sum', in the pinned program and in every row, IS THE sha256 OF THE DUMP (.gsa) THAT YtcpfdfejojghbaaProg.lean LOADS. Nothing in Lean hashes anything: it is a label: what it is worth is what the hold of that sum in a sandbox is worth. -/
noncomputable def Try.pinned : Pinned := { name := "ytcpfdfejojghbaa", sum := "b6755ad39324f96d78fad2deadc38f144966037de7c4f66255bdc30c5524dc69", checked := Try.checked }
namespace Rows
def none {H : Type} : Left H := { results := [], args := [] }

/-- 'quarantinelaw15.TreeDeep': WHATEVER THE INPUT: true; the input reads as it did. -/
def treeDeepSpec : ChangeSpec := { name := "treeDeep", fn := fun _ => fun
  | [d1, d2, d3] => { results := [.lit (.bool true)], args := [d1, d2, d3] }
  | _ => none }
def treeDeepRow : OpenClaim := { program := "ytcpfdfejojghbaa", sum := "b6755ad39324f96d78fad2deadc38f144966037de7c4f66255bdc30c5524dc69", func := "quarantine/quarantinelaw15.TreeDeep", spec := "treeDeep", inPlace := ["internal/bytealg.Compare", "slices.overlaps[quarantine/btree.Pair[int]]", "slices.overlaps[[]byte]", "slices.overlaps[*quarantine/btree.node[int]]", "slices.overlaps[quarantine/btree.Pair[string]]", "slices.overlaps[*quarantine/btree.node[string]]"], unfollowed := true, recurses := true, apart := false }
def TreeDeepSaid : Prop := treeDeepRow.holds Try.pinned (OpenSpec.ofChange treeDeepSpec)

/-- ITS FALSE NEIGHBOUR: 'it returns false'. Refute it at one input. -/
def treeDeepWrong : ChangeSpec := { name := "treeDeep", fn := fun _ => fun
  | [d1, d2, d3] => { results := [.lit (.bool false)], args := [d1, d2, d3] }
  | _ => none }
def TreeDeepWrongFalsely : Prop := treeDeepRow.holds Try.pinned (OpenSpec.ofChange treeDeepWrong)

/-- 'quarantinelaw15.TreeKinds': WHATEVER THE INPUT: true; the input reads as it did. -/
def treeKindsSpec : ChangeSpec := { name := "treeKinds", fn := fun _ => fun
  | [d] => { results := [.lit (.bool true)], args := [d] }
  | _ => none }
def treeKindsRow : OpenClaim := { program := "ytcpfdfejojghbaa", sum := "b6755ad39324f96d78fad2deadc38f144966037de7c4f66255bdc30c5524dc69", func := "quarantine/quarantinelaw15.TreeKinds", spec := "treeKinds", inPlace := ["internal/bytealg.Compare", "slices.overlaps[quarantine/btree.Pair[int]]", "slices.overlaps[[]byte]", "slices.overlaps[*quarantine/btree.node[int]]", "slices.overlaps[quarantine/btree.Pair[[2]int]]", "slices.overlaps[*quarantine/btree.node[[2]int]]", "slices.overlaps[quarantine/btree.Pair[string]]", "slices.overlaps[*quarantine/btree.node[string]]"], unfollowed := true, recurses := true, apart := false }
def TreeKindsSaid : Prop := treeKindsRow.holds Try.pinned (OpenSpec.ofChange treeKindsSpec)

/-- ITS FALSE NEIGHBOUR: 'it returns false'. Refute it at one input. -/
def treeKindsWrong : ChangeSpec := { name := "treeKinds", fn := fun _ => fun
  | [d] => { results := [.lit (.bool false)], args := [d] }
  | _ => none }
def TreeKindsWrongFalsely : Prop := treeKindsRow.holds Try.pinned (OpenSpec.ofChange treeKindsWrong)

/-- 'quarantinelaw15.TreeOrder': WHATEVER THE INPUT: true; the input reads as it did. -/
def treeOrderSpec : ChangeSpec := { name := "treeOrder", fn := fun _ => fun
  | [d1, d2] => { results := [.lit (.bool true)], args := [d1, d2] }
  | _ => none }
def treeOrderRow : OpenClaim := { program := "ytcpfdfejojghbaa", sum := "b6755ad39324f96d78fad2deadc38f144966037de7c4f66255bdc30c5524dc69", func := "quarantine/quarantinelaw15.TreeOrder", spec := "treeOrder", inPlace := ["internal/bytealg.Compare", "slices.overlaps[quarantine/btree.Pair[int]]", "slices.overlaps[[]byte]", "slices.overlaps[*quarantine/btree.node[int]]"], unfollowed := true, recurses := true, apart := false }
def TreeOrderSaid : Prop := treeOrderRow.holds Try.pinned (OpenSpec.ofChange treeOrderSpec)

/-- ITS FALSE NEIGHBOUR: 'it returns false'. Refute it at one input. -/
def treeOrderWrong : ChangeSpec := { name := "treeOrder", fn := fun _ => fun
  | [d1, d2] => { results := [.lit (.bool false)], args := [d1, d2] }
  | _ => none }
def TreeOrderWrongFalsely : Prop := treeOrderRow.holds Try.pinned (OpenSpec.ofChange treeOrderWrong)

/-- 'quarantinelaw15.TreePieces': WHATEVER THE INPUT: true; the input reads as it did. -/
def treePiecesSpec : ChangeSpec := { name := "treePieces", fn := fun _ => fun
  | [d1, d2] => { results := [.lit (.bool true)], args := [d1, d2] }
  | _ => none }
def treePiecesRow : OpenClaim := { program := "ytcpfdfejojghbaa", sum := "b6755ad39324f96d78fad2deadc38f144966037de7c4f66255bdc30c5524dc69", func := "quarantine/quarantinelaw15.TreePieces", spec := "treePieces", inPlace := ["internal/bytealg.Compare", "slices.overlaps[quarantine/btree.Pair[int]]", "slices.overlaps[[]byte]", "slices.overlaps[*quarantine/btree.node[int]]"], unfollowed := true, recurses := true, apart := false }
def TreePiecesSaid : Prop := treePiecesRow.holds Try.pinned (OpenSpec.ofChange treePiecesSpec)

/-- ITS FALSE NEIGHBOUR: 'it returns false'. Refute it at one input. -/
def treePiecesWrong : ChangeSpec := { name := "treePieces", fn := fun _ => fun
  | [d1, d2] => { results := [.lit (.bool false)], args := [d1, d2] }
  | _ => none }
def TreePiecesWrongFalsely : Prop := treePiecesRow.holds Try.pinned (OpenSpec.ofChange treePiecesWrong)

/-- 'quarantinelaw15.TreeAll': WHATEVER THE INPUT: true; the input reads as it did. -/
def treeAllSpec : ChangeSpec := { name := "treeAll", fn := fun _ => fun
  | [d] => { results := [.lit (.bool true)], args := [d] }
  | _ => none }
def treeAllRow : OpenClaim := { program := "ytcpfdfejojghbaa", sum := "b6755ad39324f96d78fad2deadc38f144966037de7c4f66255bdc30c5524dc69", func := "quarantine/quarantinelaw15.TreeAll", spec := "treeAll", inPlace := ["internal/bytealg.Compare", "slices.overlaps[quarantine/btree.Pair[int]]", "slices.overlaps[[]byte]", "slices.overlaps[*quarantine/btree.node[int]]"], unfollowed := true, recurses := true, apart := false }
def TreeAllSaid : Prop := treeAllRow.holds Try.pinned (OpenSpec.ofChange treeAllSpec)

/-- ITS FALSE NEIGHBOUR: 'it returns false'. Refute it at one input. -/
def treeAllWrong : ChangeSpec := { name := "treeAll", fn := fun _ => fun
  | [d] => { results := [.lit (.bool false)], args := [d] }
  | _ => none }
def TreeAllWrongFalsely : Prop := treeAllRow.holds Try.pinned (OpenSpec.ofChange treeAllWrong)

/-- 'quarantinelaw15.TreeEmpties': WHATEVER THE INPUT: true; the input reads as it did. -/
def treeEmptiesSpec : ChangeSpec := { name := "treeEmpties", fn := fun _ => fun
  | [d1, d2] => { results := [.lit (.bool true)], args := [d1, d2] }
  | _ => none }
def treeEmptiesRow : OpenClaim := { program := "ytcpfdfejojghbaa", sum := "b6755ad39324f96d78fad2deadc38f144966037de7c4f66255bdc30c5524dc69", func := "quarantine/quarantinelaw15.TreeEmpties", spec := "treeEmpties", inPlace := ["internal/bytealg.Compare", "slices.overlaps[quarantine/btree.Pair[int]]", "slices.overlaps[[]byte]", "slices.overlaps[*quarantine/btree.node[int]]"], unfollowed := true, recurses := true, apart := false }
def TreeEmptiesSaid : Prop := treeEmptiesRow.holds Try.pinned (OpenSpec.ofChange treeEmptiesSpec)

/-- ITS FALSE NEIGHBOUR: 'it returns false'. Refute it at one input. -/
def treeEmptiesWrong : ChangeSpec := { name := "treeEmpties", fn := fun _ => fun
  | [d1, d2] => { results := [.lit (.bool false)], args := [d1, d2] }
  | _ => none }
def TreeEmptiesWrongFalsely : Prop := treeEmptiesRow.holds Try.pinned (OpenSpec.ofChange treeEmptiesWrong)

/-- 'quarantinelaw15.TreeCopies': WHATEVER THE INPUT: true; the input reads as it did. -/
def treeCopiesSpec : ChangeSpec := { name := "treeCopies", fn := fun _ => fun
  | [d1, d2] => { results := [.lit (.bool true)], args := [d1, d2] }
  | _ => none }
def treeCopiesRow : OpenClaim := { program := "ytcpfdfejojghbaa", sum := "b6755ad39324f96d78fad2deadc38f144966037de7c4f66255bdc30c5524dc69", func := "quarantine/quarantinelaw15.TreeCopies", spec := "treeCopies", inPlace := ["internal/bytealg.Compare", "slices.overlaps[quarantine/btree.Pair[int]]", "slices.overlaps[[]byte]", "slices.overlaps[*quarantine/btree.node[int]]"], unfollowed := true, recurses := true, apart := false }
def TreeCopiesSaid : Prop := treeCopiesRow.holds Try.pinned (OpenSpec.ofChange treeCopiesSpec)

/-- ITS FALSE NEIGHBOUR: 'it returns false'. Refute it at one input. -/
def treeCopiesWrong : ChangeSpec := { name := "treeCopies", fn := fun _ => fun
  | [d1, d2] => { results := [.lit (.bool false)], args := [d1, d2] }
  | _ => none }
def TreeCopiesWrongFalsely : Prop := treeCopiesRow.holds Try.pinned (OpenSpec.ofChange treeCopiesWrong)

/-- 'quarantinelaw16.IndexFinds': WHATEVER THE INPUT: true; the input reads as it did. -/
def indexFindsSpec : ChangeSpec := { name := "indexFinds", fn := fun _ => fun
  | [d1, d2, d3] => { results := [.lit (.bool true)], args := [d1, d2, d3] }
  | _ => none }
def indexFindsRow : OpenClaim := { program := "ytcpfdfejojghbaa", sum := "b6755ad39324f96d78fad2deadc38f144966037de7c4f66255bdc30c5524dc69", func := "quarantine/quarantinelaw16.IndexFinds", spec := "indexFinds", inPlace := ["internal/bytealg.Compare", "slices.overlaps[quarantine/btree.Pair[int]]", "slices.overlaps[[]byte]", "slices.overlaps[*quarantine/btree.node[int]]"], unfollowed := true, recurses := true, apart := false }
def IndexFindsSaid : Prop := indexFindsRow.holds Try.pinned (OpenSpec.ofChange indexFindsSpec)

/-- ITS FALSE NEIGHBOUR: 'it returns false'. Refute it at one input. -/
def indexFindsWrong : ChangeSpec := { name := "indexFinds", fn := fun _ => fun
  | [d1, d2, d3] => { results := [.lit (.bool false)], args := [d1, d2, d3] }
  | _ => none }
def IndexFindsWrongFalsely : Prop := indexFindsRow.holds Try.pinned (OpenSpec.ofChange indexFindsWrong)

/- THE SECOND FORM. 'bulk': how many values and letters a reading holds, each counted each time it is reached (what is shared counts as often as it is met; a slice's spare places count too). A statement '..UptoSaid' is the law's where the arguments, and the package variables that the reading takes, are together of bulk at most 1048576: NARROWER than '..Said'. Prove '..Said' where nothing that the law and all that it calls make is longer than what came in: it says more and counts as full. Else prove '..UptoSaid'. A law counts once. -/
mutual
def uptoBulk {H : Type} : DataW H → Nat
  | .lit (.string bytes) => bytes.length + 1
  | .lit _ => 1
  | .nil => 1
  | .ptr d => uptoBulk d + 1
  | .slice elems spare => uptoBulkAll elems + uptoBulkAll spare + 1
  | .agg parts => uptoBulkAll parts + 1
  | .iface _ d => uptoBulk d + 1
  | .map entries => uptoBulkEntries entries + 1
  | .held _ => 1
def uptoBulkAll {H : Type} : List (DataW H) → Nat
  | [] => 0
  | d :: r => uptoBulk d + uptoBulkAll r
def uptoBulkEntries {H : Type} : List (Lit × DataW H) → Nat
  | [] => 0
  | x :: r => uptoBulkEntry x + uptoBulkEntries r
def uptoBulkEntry {H : Type} : Lit × DataW H → Nat
  | (.string bytes, d) => bytes.length + uptoBulk d + 1
  | (_, d) => uptoBulk d + 1
 end
def uptoSmall : (H : Type) → List (DataW H) → Bool := fun _ ds => decide (uptoBulkAll ds ≤ 1048576)
def OpenSpec.upto (s : _root_.Go.ChangeSpec) : _root_.Go.OpenSpec := { _root_.Go.OpenSpec.ofChange s with cond := some uptoSmall }

/-- 'quarantinelaw15.TreeDeep', WHERE WHAT IT READS IS OF BULK AT MOST 1048576: true; the input reads as it did. -/
def treeDeepUptoRow : OpenClaim := { program := "ytcpfdfejojghbaa", sum := "b6755ad39324f96d78fad2deadc38f144966037de7c4f66255bdc30c5524dc69", func := "quarantine/quarantinelaw15.TreeDeep", spec := "treeDeep", inPlace := ["internal/bytealg.Compare", "slices.overlaps[quarantine/btree.Pair[int]]", "slices.overlaps[[]byte]", "slices.overlaps[*quarantine/btree.node[int]]", "slices.overlaps[quarantine/btree.Pair[string]]", "slices.overlaps[*quarantine/btree.node[string]]"], unfollowed := true, recurses := true, apart := false, narrowed := true }
def TreeDeepUptoSaid : Prop := treeDeepUptoRow.holds Try.pinned (OpenSpec.upto treeDeepSpec)

/-- 'quarantinelaw15.TreeKinds', WHERE WHAT IT READS IS OF BULK AT MOST 1048576: true; the input reads as it did. -/
def treeKindsUptoRow : OpenClaim := { program := "ytcpfdfejojghbaa", sum := "b6755ad39324f96d78fad2deadc38f144966037de7c4f66255bdc30c5524dc69", func := "quarantine/quarantinelaw15.TreeKinds", spec := "treeKinds", inPlace := ["internal/bytealg.Compare", "slices.overlaps[quarantine/btree.Pair[int]]", "slices.overlaps[[]byte]", "slices.overlaps[*quarantine/btree.node[int]]", "slices.overlaps[quarantine/btree.Pair[[2]int]]", "slices.overlaps[*quarantine/btree.node[[2]int]]", "slices.overlaps[quarantine/btree.Pair[string]]", "slices.overlaps[*quarantine/btree.node[string]]"], unfollowed := true, recurses := true, apart := false, narrowed := true }
def TreeKindsUptoSaid : Prop := treeKindsUptoRow.holds Try.pinned (OpenSpec.upto treeKindsSpec)

/-- 'quarantinelaw15.TreeOrder', WHERE WHAT IT READS IS OF BULK AT MOST 1048576: true; the input reads as it did. -/
def treeOrderUptoRow : OpenClaim := { program := "ytcpfdfejojghbaa", sum := "b6755ad39324f96d78fad2deadc38f144966037de7c4f66255bdc30c5524dc69", func := "quarantine/quarantinelaw15.TreeOrder", spec := "treeOrder", inPlace := ["internal/bytealg.Compare", "slices.overlaps[quarantine/btree.Pair[int]]", "slices.overlaps[[]byte]", "slices.overlaps[*quarantine/btree.node[int]]"], unfollowed := true, recurses := true, apart := false, narrowed := true }
def TreeOrderUptoSaid : Prop := treeOrderUptoRow.holds Try.pinned (OpenSpec.upto treeOrderSpec)

/-- 'quarantinelaw15.TreePieces', WHERE WHAT IT READS IS OF BULK AT MOST 1048576: true; the input reads as it did. -/
def treePiecesUptoRow : OpenClaim := { program := "ytcpfdfejojghbaa", sum := "b6755ad39324f96d78fad2deadc38f144966037de7c4f66255bdc30c5524dc69", func := "quarantine/quarantinelaw15.TreePieces", spec := "treePieces", inPlace := ["internal/bytealg.Compare", "slices.overlaps[quarantine/btree.Pair[int]]", "slices.overlaps[[]byte]", "slices.overlaps[*quarantine/btree.node[int]]"], unfollowed := true, recurses := true, apart := false, narrowed := true }
def TreePiecesUptoSaid : Prop := treePiecesUptoRow.holds Try.pinned (OpenSpec.upto treePiecesSpec)

/-- 'quarantinelaw15.TreeAll', WHERE WHAT IT READS IS OF BULK AT MOST 1048576: true; the input reads as it did. -/
def treeAllUptoRow : OpenClaim := { program := "ytcpfdfejojghbaa", sum := "b6755ad39324f96d78fad2deadc38f144966037de7c4f66255bdc30c5524dc69", func := "quarantine/quarantinelaw15.TreeAll", spec := "treeAll", inPlace := ["internal/bytealg.Compare", "slices.overlaps[quarantine/btree.Pair[int]]", "slices.overlaps[[]byte]", "slices.overlaps[*quarantine/btree.node[int]]"], unfollowed := true, recurses := true, apart := false, narrowed := true }
def TreeAllUptoSaid : Prop := treeAllUptoRow.holds Try.pinned (OpenSpec.upto treeAllSpec)

/-- 'quarantinelaw15.TreeEmpties', WHERE WHAT IT READS IS OF BULK AT MOST 1048576: true; the input reads as it did. -/
def treeEmptiesUptoRow : OpenClaim := { program := "ytcpfdfejojghbaa", sum := "b6755ad39324f96d78fad2deadc38f144966037de7c4f66255bdc30c5524dc69", func := "quarantine/quarantinelaw15.TreeEmpties", spec := "treeEmpties", inPlace := ["internal/bytealg.Compare", "slices.overlaps[quarantine/btree.Pair[int]]", "slices.overlaps[[]byte]", "slices.overlaps[*quarantine/btree.node[int]]"], unfollowed := true, recurses := true, apart := false, narrowed := true }
def TreeEmptiesUptoSaid : Prop := treeEmptiesUptoRow.holds Try.pinned (OpenSpec.upto treeEmptiesSpec)

/-- 'quarantinelaw15.TreeCopies', WHERE WHAT IT READS IS OF BULK AT MOST 1048576: true; the input reads as it did. -/
def treeCopiesUptoRow : OpenClaim := { program := "ytcpfdfejojghbaa", sum := "b6755ad39324f96d78fad2deadc38f144966037de7c4f66255bdc30c5524dc69", func := "quarantine/quarantinelaw15.TreeCopies", spec := "treeCopies", inPlace := ["internal/bytealg.Compare", "slices.overlaps[quarantine/btree.Pair[int]]", "slices.overlaps[[]byte]", "slices.overlaps[*quarantine/btree.node[int]]"], unfollowed := true, recurses := true, apart := false, narrowed := true }
def TreeCopiesUptoSaid : Prop := treeCopiesUptoRow.holds Try.pinned (OpenSpec.upto treeCopiesSpec)

/-- 'quarantinelaw16.IndexFinds', WHERE WHAT IT READS IS OF BULK AT MOST 1048576: true; the input reads as it did. -/
def indexFindsUptoRow : OpenClaim := { program := "ytcpfdfejojghbaa", sum := "b6755ad39324f96d78fad2deadc38f144966037de7c4f66255bdc30c5524dc69", func := "quarantine/quarantinelaw16.IndexFinds", spec := "indexFinds", inPlace := ["internal/bytealg.Compare", "slices.overlaps[quarantine/btree.Pair[int]]", "slices.overlaps[[]byte]", "slices.overlaps[*quarantine/btree.node[int]]"], unfollowed := true, recurses := true, apart := false, narrowed := true }
def IndexFindsUptoSaid : Prop := indexFindsUptoRow.holds Try.pinned (OpenSpec.upto indexFindsSpec)

end Rows
end Go.Proofs.Ytcpfdfejojghbaa
