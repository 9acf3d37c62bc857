/-
  No cell of these rows narrows 'for every input' (looked for: loops, veiled, ifaces, maps, wideKeys, modest, calm, conditions, laid).
  DERIVED. THE GIVEN ROWS OF THIS SEAT. 6 by the template 'for every input the law returns true; each argument reads behind the call as it read before'; 0 by the template 'total and deterministic' (their statements: YtdhpalioifjfbaaTotals.lean).
  GIVEN WITH THE SEED: the statements are not yours to turn. If you find one false, say at which input.
  Laid BY PROGRAM, IN A SANDBOX (cutbox-rows.mjs): the forced cells as the released guide's own fill.sh prints them over the translation dde503b8b0fdc750… (all of the seat's roots in one cut). By AI agents, Wed Nov 11 2026. No macro, syntax, notation, axiom, sorry.
-/
import Derived.Test.YtdhpalioifjfbaaChecked
import GoSem.Claim
import GoSem.ClaimJoined
import GoSem.ClaimMapViews
import Derived.JoinedTies
import Derived.KernelRfl
namespace Go.Proofs.Ytdhpalioifjfbaa
/- THE CELL 'sum', in the pinned program and in every row, IS THE sha256 OF THE DUMP (.gsa) THAT YtdhpalioifjfbaaProg.lean LOADS. Nothing in Lean hashes anything: it is a label: what it is worth is what the hold of that sum in a sandbox is worth. -/
noncomputable def Try.pinned : Pinned := { name := "ytdhpalioifjfbaa", sum := "dde503b8b0fdc750ddaba62d29468bd3e9984074f0e50900211f8135035e53f3", checked := Try.checked }
namespace Rows
def none {H : Type} : Left H := { results := [], args := [] }

/-- 'quarantinelaw13.PagePushes': WHATEVER THE INPUT: true; the input reads as it did. -/
def pagePushesSpec : ChangeSpec := { name := "pagePushes", fn := fun _ => fun
  | [d1, d2] => { results := [.lit (.bool true)], args := [d1, d2] }
  | _ => none }
def pagePushesRow : OpenClaim := { program := "ytdhpalioifjfbaa", sum := "dde503b8b0fdc750ddaba62d29468bd3e9984074f0e50900211f8135035e53f3", func := "quarantine/quarantinelaw13.PagePushes", spec := "pagePushes", apart := false }
def PagePushesSaid : Prop := pagePushesRow.holds Try.pinned (OpenSpec.ofChange pagePushesSpec)

/-- ITS FALSE NEIGHBOUR: 'it returns false'. Refute it at one input. -/
def pagePushesWrong : ChangeSpec := { name := "pagePushes", fn := fun _ => fun
  | [d1, d2] => { results := [.lit (.bool false)], args := [d1, d2] }
  | _ => none }
def PagePushesWrongFalsely : Prop := pagePushesRow.holds Try.pinned (OpenSpec.ofChange pagePushesWrong)

/-- 'quarantinelaw13.PageAll': WHATEVER THE INPUT: true; the input reads as it did. -/
def pageAllSpec : ChangeSpec := { name := "pageAll", fn := fun _ => fun
  | [d] => { results := [.lit (.bool true)], args := [d] }
  | _ => none }
def pageAllRow : OpenClaim := { program := "ytdhpalioifjfbaa", sum := "dde503b8b0fdc750ddaba62d29468bd3e9984074f0e50900211f8135035e53f3", func := "quarantine/quarantinelaw13.PageAll", spec := "pageAll", apart := false }
def PageAllSaid : Prop := pageAllRow.holds Try.pinned (OpenSpec.ofChange pageAllSpec)

/-- ITS FALSE NEIGHBOUR: 'it returns false'. Refute it at one input. -/
def pageAllWrong : ChangeSpec := { name := "pageAll", fn := fun _ => fun
  | [d] => { results := [.lit (.bool false)], args := [d] }
  | _ => none }
def PageAllWrongFalsely : Prop := pageAllRow.holds Try.pinned (OpenSpec.ofChange pageAllWrong)

/-- 'quarantinelaw13.PageFills': WHATEVER THE INPUT: true; the input reads as it did. -/
def pageFillsSpec : ChangeSpec := { name := "pageFills", fn := fun _ => fun
  | [d] => { results := [.lit (.bool true)], args := [d] }
  | _ => none }
def pageFillsRow : OpenClaim := { program := "ytdhpalioifjfbaa", sum := "dde503b8b0fdc750ddaba62d29468bd3e9984074f0e50900211f8135035e53f3", func := "quarantine/quarantinelaw13.PageFills", spec := "pageFills", apart := false }
def PageFillsSaid : Prop := pageFillsRow.holds Try.pinned (OpenSpec.ofChange pageFillsSpec)

/-- ITS FALSE NEIGHBOUR: 'it returns false'. Refute it at one input. -/
def pageFillsWrong : ChangeSpec := { name := "pageFills", fn := fun _ => fun
  | [d] => { results := [.lit (.bool false)], args := [d] }
  | _ => none }
def PageFillsWrongFalsely : Prop := pageFillsRow.holds Try.pinned (OpenSpec.ofChange pageFillsWrong)

/-- 'quarantinelaw14.HeapKeeps': WHATEVER THE INPUT: true; the input reads as it did. -/
def heapKeepsSpec : ChangeSpec := { name := "heapKeeps", fn := fun _ => fun
  | [d1, d2, d3] => { results := [.lit (.bool true)], args := [d1, d2, d3] }
  | _ => none }
def heapKeepsRow : OpenClaim := { program := "ytdhpalioifjfbaa", sum := "dde503b8b0fdc750ddaba62d29468bd3e9984074f0e50900211f8135035e53f3", func := "quarantine/quarantinelaw14.HeapKeeps", spec := "heapKeeps", unfollowed := true, recurses := true, apart := false }
def HeapKeepsSaid : Prop := heapKeepsRow.holds Try.pinned (OpenSpec.ofChange heapKeepsSpec)

/-- ITS FALSE NEIGHBOUR: 'it returns false'. Refute it at one input. -/
def heapKeepsWrong : ChangeSpec := { name := "heapKeeps", fn := fun _ => fun
  | [d1, d2, d3] => { results := [.lit (.bool false)], args := [d1, d2, d3] }
  | _ => none }
def HeapKeepsWrongFalsely : Prop := heapKeepsRow.holds Try.pinned (OpenSpec.ofChange heapKeepsWrong)

/-- 'quarantinelaw14.HeapAll': WHATEVER THE INPUT: true; the input reads as it did. -/
def heapAllSpec : ChangeSpec := { name := "heapAll", fn := fun _ => fun
  | [d] => { results := [.lit (.bool true)], args := [d] }
  | _ => none }
def heapAllRow : OpenClaim := { program := "ytdhpalioifjfbaa", sum := "dde503b8b0fdc750ddaba62d29468bd3e9984074f0e50900211f8135035e53f3", func := "quarantine/quarantinelaw14.HeapAll", spec := "heapAll", unfollowed := true, recurses := true, apart := false }
def HeapAllSaid : Prop := heapAllRow.holds Try.pinned (OpenSpec.ofChange heapAllSpec)

/-- ITS FALSE NEIGHBOUR: 'it returns false'. Refute it at one input. -/
def heapAllWrong : ChangeSpec := { name := "heapAll", fn := fun _ => fun
  | [d] => { results := [.lit (.bool false)], args := [d] }
  | _ => none }
def HeapAllWrongFalsely : Prop := heapAllRow.holds Try.pinned (OpenSpec.ofChange heapAllWrong)

/-- 'quarantinelaw14.HeapFits': WHATEVER THE INPUT: true; the input reads as it did. -/
def heapFitsSpec : ChangeSpec := { name := "heapFits", fn := fun _ => fun
  | [d1, d2] => { results := [.lit (.bool true)], args := [d1, d2] }
  | _ => none }
def heapFitsRow : OpenClaim := { program := "ytdhpalioifjfbaa", sum := "dde503b8b0fdc750ddaba62d29468bd3e9984074f0e50900211f8135035e53f3", func := "quarantine/quarantinelaw14.HeapFits", spec := "heapFits", unfollowed := true, recurses := true, apart := false }
def HeapFitsSaid : Prop := heapFitsRow.holds Try.pinned (OpenSpec.ofChange heapFitsSpec)

/-- ITS FALSE NEIGHBOUR: 'it returns false'. Refute it at one input. -/
def heapFitsWrong : ChangeSpec := { name := "heapFits", fn := fun _ => fun
  | [d1, d2] => { results := [.lit (.bool false)], args := [d1, d2] }
  | _ => none }
def HeapFitsWrongFalsely : Prop := heapFitsRow.holds Try.pinned (OpenSpec.ofChange heapFitsWrong)

/- THE SECOND FORM. 'bulk': how many values and letters a reading holds, each counted each time it is reached (what is shared counts as often as it is met; a slice's spare places count too). A statement '..UptoSaid' is the law's where the arguments, and the package variables that the reading takes, are together of bulk at most 1048576: NARROWER than '..Said'. Prove '..Said' where nothing that the law and all that it calls make is longer than what came in: it says more and counts as full. Else prove '..UptoSaid'. A law counts once. -/
mutual
def uptoBulk {H : Type} : DataW H → Nat
  | .lit (.string bytes) => bytes.length + 1
  | .lit _ => 1
  | .nil => 1
  | .ptr d => uptoBulk d + 1
  | .slice elems spare => uptoBulkAll elems + uptoBulkAll spare + 1
  | .agg parts => uptoBulkAll parts + 1
  | .iface _ d => uptoBulk d + 1
  | .map entries => uptoBulkEntries entries + 1
  | .held _ => 1
def uptoBulkAll {H : Type} : List (DataW H) → Nat
  | [] => 0
  | d :: r => uptoBulk d + uptoBulkAll r
def uptoBulkEntries {H : Type} : List (Lit × DataW H) → Nat
  | [] => 0
  | x :: r => uptoBulkEntry x + uptoBulkEntries r
def uptoBulkEntry {H : Type} : Lit × DataW H → Nat
  | (.string bytes, d) => bytes.length + uptoBulk d + 1
  | (_, d) => uptoBulk d + 1
 end
def uptoSmall : (H : Type) → List (DataW H) → Bool := fun _ ds => decide (uptoBulkAll ds ≤ 1048576)
def OpenSpec.upto (s : _root_.Go.ChangeSpec) : _root_.Go.OpenSpec := { _root_.Go.OpenSpec.ofChange s with cond := some uptoSmall }

/-- 'quarantinelaw13.PagePushes', WHERE WHAT IT READS IS OF BULK AT MOST 1048576: true; the input reads as it did. -/
def pagePushesUptoRow : OpenClaim := { program := "ytdhpalioifjfbaa", sum := "dde503b8b0fdc750ddaba62d29468bd3e9984074f0e50900211f8135035e53f3", func := "quarantine/quarantinelaw13.PagePushes", spec := "pagePushes", apart := false, narrowed := true }
def PagePushesUptoSaid : Prop := pagePushesUptoRow.holds Try.pinned (OpenSpec.upto pagePushesSpec)

/-- 'quarantinelaw13.PageAll', WHERE WHAT IT READS IS OF BULK AT MOST 1048576: true; the input reads as it did. -/
def pageAllUptoRow : OpenClaim := { program := "ytdhpalioifjfbaa", sum := "dde503b8b0fdc750ddaba62d29468bd3e9984074f0e50900211f8135035e53f3", func := "quarantine/quarantinelaw13.PageAll", spec := "pageAll", apart := false, narrowed := true }
def PageAllUptoSaid : Prop := pageAllUptoRow.holds Try.pinned (OpenSpec.upto pageAllSpec)

/-- 'quarantinelaw13.PageFills', WHERE WHAT IT READS IS OF BULK AT MOST 1048576: true; the input reads as it did. -/
def pageFillsUptoRow : OpenClaim := { program := "ytdhpalioifjfbaa", sum := "dde503b8b0fdc750ddaba62d29468bd3e9984074f0e50900211f8135035e53f3", func := "quarantine/quarantinelaw13.PageFills", spec := "pageFills", apart := false, narrowed := true }
def PageFillsUptoSaid : Prop := pageFillsUptoRow.holds Try.pinned (OpenSpec.upto pageFillsSpec)

/-- 'quarantinelaw14.HeapKeeps', WHERE WHAT IT READS IS OF BULK AT MOST 1048576: true; the input reads as it did. -/
def heapKeepsUptoRow : OpenClaim := { program := "ytdhpalioifjfbaa", sum := "dde503b8b0fdc750ddaba62d29468bd3e9984074f0e50900211f8135035e53f3", func := "quarantine/quarantinelaw14.HeapKeeps", spec := "heapKeeps", unfollowed := true, recurses := true, apart := false, narrowed := true }
def HeapKeepsUptoSaid : Prop := heapKeepsUptoRow.holds Try.pinned (OpenSpec.upto heapKeepsSpec)

/-- 'quarantinelaw14.HeapAll', WHERE WHAT IT READS IS OF BULK AT MOST 1048576: true; the input reads as it did. -/
def heapAllUptoRow : OpenClaim := { program := "ytdhpalioifjfbaa", sum := "dde503b8b0fdc750ddaba62d29468bd3e9984074f0e50900211f8135035e53f3", func := "quarantine/quarantinelaw14.HeapAll", spec := "heapAll", unfollowed := true, recurses := true, apart := false, narrowed := true }
def HeapAllUptoSaid : Prop := heapAllUptoRow.holds Try.pinned (OpenSpec.upto heapAllSpec)

/-- 'quarantinelaw14.HeapFits', WHERE WHAT IT READS IS OF BULK AT MOST 1048576: true; the input reads as it did. -/
def heapFitsUptoRow : OpenClaim := { program := "ytdhpalioifjfbaa", sum := "dde503b8b0fdc750ddaba62d29468bd3e9984074f0e50900211f8135035e53f3", func := "quarantine/quarantinelaw14.HeapFits", spec := "heapFits", unfollowed := true, recurses := true, apart := false, narrowed := true }
def HeapFitsUptoSaid : Prop := heapFitsUptoRow.holds Try.pinned (OpenSpec.upto heapFitsSpec)

end Rows
end Go.Proofs.Ytdhpalioifjfbaa
