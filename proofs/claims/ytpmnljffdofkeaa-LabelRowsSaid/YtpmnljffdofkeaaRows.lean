/-
  No cell of these rows narrows 'for every input' (looked for: loops, veiled, ifaces, maps, wideKeys, modest, calm, conditions, laid).
  DERIVED. THE GIVEN ROWS OF THIS SEAT. 9 by the template 'for every input the law returns true; each argument reads behind the call as it read before'; 0 by the template 'total and deterministic' (their statements: YtpmnljffdofkeaaTotals.lean).
  GIVEN WITH THE SEED: the statements are not yours to turn. If you find one false, say at which input.
  Laid BY PROGRAM, IN A SANDBOX (cutbox-rows.mjs): the forced cells as the released guide's own fill.sh prints them over the translation cf7c1553e2690213… (all of the seat's roots in one cut). By AI agents, Wed Nov 11 2026. No macro, syntax, notation, axiom, sorry.
-/
import Derived.Test.YtpmnljffdofkeaaChecked
import GoSem.Claim
import GoSem.ClaimJoined
import GoSem.ClaimMapViews
import Derived.JoinedTies
import Derived.KernelRfl
namespace Go.Proofs.Ytpmnljffdofkeaa
/- THE CELL 'sum', in the pinned program and in every row, IS THE sha256 OF THE DUMP (.gsa) THAT YtpmnljffdofkeaaProg.lean LOADS. Nothing in Lean hashes anything: it is a label: what it is worth is what the hold of that sum in a sandbox is worth. -/
noncomputable def Try.pinned : Pinned := { name := "ytpmnljffdofkeaa", sum := "cf7c1553e2690213c77765eb67e4406658dbab663760cf398d805bfed1e445cd", checked := Try.checked }
namespace Rows
def none {H : Type} : Left H := { results := [], args := [] }

/-- 'quarantinelaw2.OwnAll': WHATEVER THE INPUT: true; the input reads as it did. -/
def ownAllSpec : ChangeSpec := { name := "ownAll", fn := fun _ => fun
  | [d1, d2, d3, d4] => { results := [.lit (.bool true)], args := [d1, d2, d3, d4] }
  | _ => none }
def ownAllRow : OpenClaim := { program := "ytpmnljffdofkeaa", sum := "cf7c1553e2690213c77765eb67e4406658dbab663760cf398d805bfed1e445cd", func := "quarantine/quarantinelaw2.OwnAll", spec := "ownAll", unfollowed := true, recurses := true, apart := false }
def OwnAllSaid : Prop := ownAllRow.holds Try.pinned (OpenSpec.ofChange ownAllSpec)

/-- ITS FALSE NEIGHBOUR: 'it returns false'. Refute it at one input. -/
def ownAllWrong : ChangeSpec := { name := "ownAll", fn := fun _ => fun
  | [d1, d2, d3, d4] => { results := [.lit (.bool false)], args := [d1, d2, d3, d4] }
  | _ => none }
def OwnAllWrongFalsely : Prop := ownAllRow.holds Try.pinned (OpenSpec.ofChange ownAllWrong)

/-- 'quarantinelaw2.OwnMore': WHATEVER THE INPUT: true; the input reads as it did. -/
def ownMoreSpec : ChangeSpec := { name := "ownMore", fn := fun _ => fun
  | [d1, d2, d3, d4] => { results := [.lit (.bool true)], args := [d1, d2, d3, d4] }
  | _ => none }
def ownMoreRow : OpenClaim := { program := "ytpmnljffdofkeaa", sum := "cf7c1553e2690213c77765eb67e4406658dbab663760cf398d805bfed1e445cd", func := "quarantine/quarantinelaw2.OwnMore", spec := "ownMore", unfollowed := true, recurses := true, apart := false }
def OwnMoreSaid : Prop := ownMoreRow.holds Try.pinned (OpenSpec.ofChange ownMoreSpec)

/-- ITS FALSE NEIGHBOUR: 'it returns false'. Refute it at one input. -/
def ownMoreWrong : ChangeSpec := { name := "ownMore", fn := fun _ => fun
  | [d1, d2, d3, d4] => { results := [.lit (.bool false)], args := [d1, d2, d3, d4] }
  | _ => none }
def OwnMoreWrongFalsely : Prop := ownMoreRow.holds Try.pinned (OpenSpec.ofChange ownMoreWrong)

/-- 'quarantinelaw2.OwnStrips': WHATEVER THE INPUT: true; the input reads as it did. -/
def ownStripsSpec : ChangeSpec := { name := "ownStrips", fn := fun _ => fun
  | [d1, d2] => { results := [.lit (.bool true)], args := [d1, d2] }
  | _ => none }
def ownStripsRow : OpenClaim := { program := "ytpmnljffdofkeaa", sum := "cf7c1553e2690213c77765eb67e4406658dbab663760cf398d805bfed1e445cd", func := "quarantine/quarantinelaw2.OwnStrips", spec := "ownStrips", unfollowed := true, recurses := true, apart := false }
def OwnStripsSaid : Prop := ownStripsRow.holds Try.pinned (OpenSpec.ofChange ownStripsSpec)

/-- ITS FALSE NEIGHBOUR: 'it returns false'. Refute it at one input. -/
def ownStripsWrong : ChangeSpec := { name := "ownStrips", fn := fun _ => fun
  | [d1, d2] => { results := [.lit (.bool false)], args := [d1, d2] }
  | _ => none }
def OwnStripsWrongFalsely : Prop := ownStripsRow.holds Try.pinned (OpenSpec.ofChange ownStripsWrong)

/-- 'quarantinelaw1.LabelMakes': WHATEVER THE INPUT: true; the input reads as it did. -/
def labelMakesSpec : ChangeSpec := { name := "labelMakes", fn := fun _ => fun
  | [d] => { results := [.lit (.bool true)], args := [d] }
  | _ => none }
def labelMakesRow : OpenClaim := { program := "ytpmnljffdofkeaa", sum := "cf7c1553e2690213c77765eb67e4406658dbab663760cf398d805bfed1e445cd", func := "quarantine/quarantinelaw1.LabelMakes", spec := "labelMakes", unfollowed := true, recurses := true, apart := false }
def LabelMakesSaid : Prop := labelMakesRow.holds Try.pinned (OpenSpec.ofChange labelMakesSpec)

/-- ITS FALSE NEIGHBOUR: 'it returns false'. Refute it at one input. -/
def labelMakesWrong : ChangeSpec := { name := "labelMakes", fn := fun _ => fun
  | [d] => { results := [.lit (.bool false)], args := [d] }
  | _ => none }
def LabelMakesWrongFalsely : Prop := labelMakesRow.holds Try.pinned (OpenSpec.ofChange labelMakesWrong)

/-- 'quarantinelaw1.LabelNorms': WHATEVER THE INPUT: true; the input reads as it did. -/
def labelNormsSpec : ChangeSpec := { name := "labelNorms", fn := fun _ => fun
  | [d1, d2] => { results := [.lit (.bool true)], args := [d1, d2] }
  | _ => none }
def labelNormsRow : OpenClaim := { program := "ytpmnljffdofkeaa", sum := "cf7c1553e2690213c77765eb67e4406658dbab663760cf398d805bfed1e445cd", func := "quarantine/quarantinelaw1.LabelNorms", spec := "labelNorms", unfollowed := true, recurses := true, apart := false }
def LabelNormsSaid : Prop := labelNormsRow.holds Try.pinned (OpenSpec.ofChange labelNormsSpec)

/-- ITS FALSE NEIGHBOUR: 'it returns false'. Refute it at one input. -/
def labelNormsWrong : ChangeSpec := { name := "labelNorms", fn := fun _ => fun
  | [d1, d2] => { results := [.lit (.bool false)], args := [d1, d2] }
  | _ => none }
def LabelNormsWrongFalsely : Prop := labelNormsRow.holds Try.pinned (OpenSpec.ofChange labelNormsWrong)

/-- 'quarantinelaw1.LabelAll': WHATEVER THE INPUT: true; the input reads as it did. -/
def labelAllSpec : ChangeSpec := { name := "labelAll", fn := fun _ => fun
  | [d1, d2] => { results := [.lit (.bool true)], args := [d1, d2] }
  | _ => none }
def labelAllRow : OpenClaim := { program := "ytpmnljffdofkeaa", sum := "cf7c1553e2690213c77765eb67e4406658dbab663760cf398d805bfed1e445cd", func := "quarantine/quarantinelaw1.LabelAll", spec := "labelAll", unfollowed := true, recurses := true, apart := false }
def LabelAllSaid : Prop := labelAllRow.holds Try.pinned (OpenSpec.ofChange labelAllSpec)

/-- ITS FALSE NEIGHBOUR: 'it returns false'. Refute it at one input. -/
def labelAllWrong : ChangeSpec := { name := "labelAll", fn := fun _ => fun
  | [d1, d2] => { results := [.lit (.bool false)], args := [d1, d2] }
  | _ => none }
def LabelAllWrongFalsely : Prop := labelAllRow.holds Try.pinned (OpenSpec.ofChange labelAllWrong)

/-- 'quarantinelaw1.LabelBytes': WHATEVER THE INPUT: true; the input reads as it did. -/
def labelBytesSpec : ChangeSpec := { name := "labelBytes", fn := fun _ => fun
  | [d1, d2, d3, d4] => { results := [.lit (.bool true)], args := [d1, d2, d3, d4] }
  | _ => none }
def labelBytesRow : OpenClaim := { program := "ytpmnljffdofkeaa", sum := "cf7c1553e2690213c77765eb67e4406658dbab663760cf398d805bfed1e445cd", func := "quarantine/quarantinelaw1.LabelBytes", spec := "labelBytes", unfollowed := true, recurses := true, apart := false }
def LabelBytesSaid : Prop := labelBytesRow.holds Try.pinned (OpenSpec.ofChange labelBytesSpec)

/-- ITS FALSE NEIGHBOUR: 'it returns false'. Refute it at one input. -/
def labelBytesWrong : ChangeSpec := { name := "labelBytes", fn := fun _ => fun
  | [d1, d2, d3, d4] => { results := [.lit (.bool false)], args := [d1, d2, d3, d4] }
  | _ => none }
def LabelBytesWrongFalsely : Prop := labelBytesRow.holds Try.pinned (OpenSpec.ofChange labelBytesWrong)

/-- 'quarantinelaw1.LabelLine': WHATEVER THE INPUT: true; the input reads as it did. -/
def labelLineSpec : ChangeSpec := { name := "labelLine", fn := fun _ => fun
  | [d1, d2, d3] => { results := [.lit (.bool true)], args := [d1, d2, d3] }
  | _ => none }
def labelLineRow : OpenClaim := { program := "ytpmnljffdofkeaa", sum := "cf7c1553e2690213c77765eb67e4406658dbab663760cf398d805bfed1e445cd", func := "quarantine/quarantinelaw1.LabelLine", spec := "labelLine", unfollowed := true, recurses := true, apart := false }
def LabelLineSaid : Prop := labelLineRow.holds Try.pinned (OpenSpec.ofChange labelLineSpec)

/-- ITS FALSE NEIGHBOUR: 'it returns false'. Refute it at one input. -/
def labelLineWrong : ChangeSpec := { name := "labelLine", fn := fun _ => fun
  | [d1, d2, d3] => { results := [.lit (.bool false)], args := [d1, d2, d3] }
  | _ => none }
def LabelLineWrongFalsely : Prop := labelLineRow.holds Try.pinned (OpenSpec.ofChange labelLineWrong)

/-- 'quarantinelaw1.LabelRows': WHATEVER THE INPUT: true; the input reads as it did. -/
def labelRowsSpec : ChangeSpec := { name := "labelRows", fn := fun _ => fun
  | [d] => { results := [.lit (.bool true)], args := [d] }
  | _ => none }
def labelRowsRow : OpenClaim := { program := "ytpmnljffdofkeaa", sum := "cf7c1553e2690213c77765eb67e4406658dbab663760cf398d805bfed1e445cd", func := "quarantine/quarantinelaw1.LabelRows", spec := "labelRows", unfollowed := true, recurses := true, apart := false }
def LabelRowsSaid : Prop := labelRowsRow.holds Try.pinned (OpenSpec.ofChange labelRowsSpec)

/-- ITS FALSE NEIGHBOUR: 'it returns false'. Refute it at one input. -/
def labelRowsWrong : ChangeSpec := { name := "labelRows", fn := fun _ => fun
  | [d] => { results := [.lit (.bool false)], args := [d] }
  | _ => none }
def LabelRowsWrongFalsely : Prop := labelRowsRow.holds Try.pinned (OpenSpec.ofChange labelRowsWrong)

/- THE SECOND FORM. 'bulk': how many values and letters a reading holds, each counted each time it is reached (what is shared counts as often as it is met; a slice's spare places count too). A statement '..UptoSaid' is the law's where the arguments, and the package variables that the reading takes, are together of bulk at most 1048576: NARROWER than '..Said'. Prove '..Said' where nothing that the law and all that it calls make is longer than what came in: it says more and counts as full. Else prove '..UptoSaid'. A law counts once. -/
mutual
def uptoBulk {H : Type} : DataW H → Nat
  | .lit (.string bytes) => bytes.length + 1
  | .lit _ => 1
  | .nil => 1
  | .ptr d => uptoBulk d + 1
  | .slice elems spare => uptoBulkAll elems + uptoBulkAll spare + 1
  | .agg parts => uptoBulkAll parts + 1
  | .iface _ d => uptoBulk d + 1
  | .map entries => uptoBulkEntries entries + 1
  | .held _ => 1
def uptoBulkAll {H : Type} : List (DataW H) → Nat
  | [] => 0
  | d :: r => uptoBulk d + uptoBulkAll r
def uptoBulkEntries {H : Type} : List (Lit × DataW H) → Nat
  | [] => 0
  | x :: r => uptoBulkEntry x + uptoBulkEntries r
def uptoBulkEntry {H : Type} : Lit × DataW H → Nat
  | (.string bytes, d) => bytes.length + uptoBulk d + 1
  | (_, d) => uptoBulk d + 1
 end
def uptoSmall : (H : Type) → List (DataW H) → Bool := fun _ ds => decide (uptoBulkAll ds ≤ 1048576)
def OpenSpec.upto (s : _root_.Go.ChangeSpec) : _root_.Go.OpenSpec := { _root_.Go.OpenSpec.ofChange s with cond := some uptoSmall }

/-- 'quarantinelaw2.OwnAll', WHERE WHAT IT READS IS OF BULK AT MOST 1048576: true; the input reads as it did. -/
def ownAllUptoRow : OpenClaim := { program := "ytpmnljffdofkeaa", sum := "cf7c1553e2690213c77765eb67e4406658dbab663760cf398d805bfed1e445cd", func := "quarantine/quarantinelaw2.OwnAll", spec := "ownAll", unfollowed := true, recurses := true, apart := false, narrowed := true }
def OwnAllUptoSaid : Prop := ownAllUptoRow.holds Try.pinned (OpenSpec.upto ownAllSpec)

/-- 'quarantinelaw2.OwnMore', WHERE WHAT IT READS IS OF BULK AT MOST 1048576: true; the input reads as it did. -/
def ownMoreUptoRow : OpenClaim := { program := "ytpmnljffdofkeaa", sum := "cf7c1553e2690213c77765eb67e4406658dbab663760cf398d805bfed1e445cd", func := "quarantine/quarantinelaw2.OwnMore", spec := "ownMore", unfollowed := true, recurses := true, apart := false, narrowed := true }
def OwnMoreUptoSaid : Prop := ownMoreUptoRow.holds Try.pinned (OpenSpec.upto ownMoreSpec)

/-- 'quarantinelaw2.OwnStrips', WHERE WHAT IT READS IS OF BULK AT MOST 1048576: true; the input reads as it did. -/
def ownStripsUptoRow : OpenClaim := { program := "ytpmnljffdofkeaa", sum := "cf7c1553e2690213c77765eb67e4406658dbab663760cf398d805bfed1e445cd", func := "quarantine/quarantinelaw2.OwnStrips", spec := "ownStrips", unfollowed := true, recurses := true, apart := false, narrowed := true }
def OwnStripsUptoSaid : Prop := ownStripsUptoRow.holds Try.pinned (OpenSpec.upto ownStripsSpec)

/-- 'quarantinelaw1.LabelMakes', WHERE WHAT IT READS IS OF BULK AT MOST 1048576: true; the input reads as it did. -/
def labelMakesUptoRow : OpenClaim := { program := "ytpmnljffdofkeaa", sum := "cf7c1553e2690213c77765eb67e4406658dbab663760cf398d805bfed1e445cd", func := "quarantine/quarantinelaw1.LabelMakes", spec := "labelMakes", unfollowed := true, recurses := true, apart := false, narrowed := true }
def LabelMakesUptoSaid : Prop := labelMakesUptoRow.holds Try.pinned (OpenSpec.upto labelMakesSpec)

/-- 'quarantinelaw1.LabelNorms', WHERE WHAT IT READS IS OF BULK AT MOST 1048576: true; the input reads as it did. -/
def labelNormsUptoRow : OpenClaim := { program := "ytpmnljffdofkeaa", sum := "cf7c1553e2690213c77765eb67e4406658dbab663760cf398d805bfed1e445cd", func := "quarantine/quarantinelaw1.LabelNorms", spec := "labelNorms", unfollowed := true, recurses := true, apart := false, narrowed := true }
def LabelNormsUptoSaid : Prop := labelNormsUptoRow.holds Try.pinned (OpenSpec.upto labelNormsSpec)

/-- 'quarantinelaw1.LabelAll', WHERE WHAT IT READS IS OF BULK AT MOST 1048576: true; the input reads as it did. -/
def labelAllUptoRow : OpenClaim := { program := "ytpmnljffdofkeaa", sum := "cf7c1553e2690213c77765eb67e4406658dbab663760cf398d805bfed1e445cd", func := "quarantine/quarantinelaw1.LabelAll", spec := "labelAll", unfollowed := true, recurses := true, apart := false, narrowed := true }
def LabelAllUptoSaid : Prop := labelAllUptoRow.holds Try.pinned (OpenSpec.upto labelAllSpec)

/-- 'quarantinelaw1.LabelBytes', WHERE WHAT IT READS IS OF BULK AT MOST 1048576: true; the input reads as it did. -/
def labelBytesUptoRow : OpenClaim := { program := "ytpmnljffdofkeaa", sum := "cf7c1553e2690213c77765eb67e4406658dbab663760cf398d805bfed1e445cd", func := "quarantine/quarantinelaw1.LabelBytes", spec := "labelBytes", unfollowed := true, recurses := true, apart := false, narrowed := true }
def LabelBytesUptoSaid : Prop := labelBytesUptoRow.holds Try.pinned (OpenSpec.upto labelBytesSpec)

/-- 'quarantinelaw1.LabelLine', WHERE WHAT IT READS IS OF BULK AT MOST 1048576: true; the input reads as it did. -/
def labelLineUptoRow : OpenClaim := { program := "ytpmnljffdofkeaa", sum := "cf7c1553e2690213c77765eb67e4406658dbab663760cf398d805bfed1e445cd", func := "quarantine/quarantinelaw1.LabelLine", spec := "labelLine", unfollowed := true, recurses := true, apart := false, narrowed := true }
def LabelLineUptoSaid : Prop := labelLineUptoRow.holds Try.pinned (OpenSpec.upto labelLineSpec)

/-- 'quarantinelaw1.LabelRows', WHERE WHAT IT READS IS OF BULK AT MOST 1048576: true; the input reads as it did. -/
def labelRowsUptoRow : OpenClaim := { program := "ytpmnljffdofkeaa", sum := "cf7c1553e2690213c77765eb67e4406658dbab663760cf398d805bfed1e445cd", func := "quarantine/quarantinelaw1.LabelRows", spec := "labelRows", unfollowed := true, recurses := true, apart := false, narrowed := true }
def LabelRowsUptoSaid : Prop := labelRowsUptoRow.holds Try.pinned (OpenSpec.upto labelRowsSpec)

end Rows
end Go.Proofs.Ytpmnljffdofkeaa
