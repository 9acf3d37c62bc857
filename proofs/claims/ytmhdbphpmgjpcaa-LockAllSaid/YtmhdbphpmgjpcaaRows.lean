/-
  No cell of these rows narrows 'for every input' (looked for: loops, veiled, ifaces, maps, wideKeys, modest, calm, conditions, laid).
  DERIVED. THE GIVEN ROWS OF THIS SEAT. 13 by the template 'for every input the law returns true; each argument reads behind the call as it read before'; 0 by the template 'total and deterministic' (their statements: YtmhdbphpmgjpcaaTotals.lean).
  GIVEN WITH THE SEED: the statements are not yours to turn. If you find one false, say at which input.
  Laid BY PROGRAM, IN A SANDBOX (cutbox-rows.mjs): the forced cells as the released guide's own fill.sh prints them over the translation 85c6c6b6a4d00b98… (all of the seat's roots in one cut). By AI agents, Wed Nov 11 2026. No macro, syntax, notation, axiom, sorry.
-/
import Derived.Test.YtmhdbphpmgjpcaaChecked
import GoSem.Claim
import GoSem.ClaimJoined
import GoSem.ClaimMapViews
import Derived.JoinedTies
import Derived.KernelRfl
namespace Go.Proofs.Ytmhdbphpmgjpcaa
/- THE CELL 'sum', in the pinned program and in every row, IS THE sha256 OF THE DUMP (.gsa) THAT YtmhdbphpmgjpcaaProg.lean LOADS. Nothing in Lean hashes anything: it is a label: what it is worth is what the hold of that sum in a sandbox is worth. -/
noncomputable def Try.pinned : Pinned := { name := "ytmhdbphpmgjpcaa", sum := "85c6c6b6a4d00b98a5245d312ab77bf5d78623768f921689a9d2552190bed767", checked := Try.checked }
namespace Rows
def none {H : Type} : Left H := { results := [], args := [] }

/-- 'quarantinelaw20.PostAll': WHATEVER THE INPUT: true; the input reads as it did. -/
def postAllSpec : ChangeSpec := { name := "postAll", fn := fun _ => fun
  | [d1, d2] => { results := [.lit (.bool true)], args := [d1, d2] }
  | _ => none }
def postAllRow : OpenClaim := { program := "ytmhdbphpmgjpcaa", sum := "85c6c6b6a4d00b98a5245d312ab77bf5d78623768f921689a9d2552190bed767", func := "quarantine/quarantinelaw20.PostAll", spec := "postAll", apart := false }
def PostAllSaid : Prop := postAllRow.holds Try.pinned (OpenSpec.ofChange postAllSpec)

/-- ITS FALSE NEIGHBOUR: 'it returns false'. Refute it at one input. -/
def postAllWrong : ChangeSpec := { name := "postAll", fn := fun _ => fun
  | [d1, d2] => { results := [.lit (.bool false)], args := [d1, d2] }
  | _ => none }
def PostAllWrongFalsely : Prop := postAllRow.holds Try.pinned (OpenSpec.ofChange postAllWrong)

/-- 'quarantinelaw20.PostMerges': WHATEVER THE INPUT: true; the input reads as it did. -/
def postMergesSpec : ChangeSpec := { name := "postMerges", fn := fun _ => fun
  | [d1, d2] => { results := [.lit (.bool true)], args := [d1, d2] }
  | _ => none }
def postMergesRow : OpenClaim := { program := "ytmhdbphpmgjpcaa", sum := "85c6c6b6a4d00b98a5245d312ab77bf5d78623768f921689a9d2552190bed767", func := "quarantine/quarantinelaw20.PostMerges", spec := "postMerges", apart := false }
def PostMergesSaid : Prop := postMergesRow.holds Try.pinned (OpenSpec.ofChange postMergesSpec)

/-- ITS FALSE NEIGHBOUR: 'it returns false'. Refute it at one input. -/
def postMergesWrong : ChangeSpec := { name := "postMerges", fn := fun _ => fun
  | [d1, d2] => { results := [.lit (.bool false)], args := [d1, d2] }
  | _ => none }
def PostMergesWrongFalsely : Prop := postMergesRow.holds Try.pinned (OpenSpec.ofChange postMergesWrong)

/-- 'quarantinelaw24.KernStamps': WHATEVER THE INPUT: true; the input reads as it did. -/
def kernStampsSpec : ChangeSpec := { name := "kernStamps", fn := fun _ => fun
  | [d] => { results := [.lit (.bool true)], args := [d] }
  | _ => none }
def kernStampsRow : OpenClaim := { program := "ytmhdbphpmgjpcaa", sum := "85c6c6b6a4d00b98a5245d312ab77bf5d78623768f921689a9d2552190bed767", func := "quarantine/quarantinelaw24.KernStamps", spec := "kernStamps", unfollowed := true, recurses := true, apart := false }
def KernStampsSaid : Prop := kernStampsRow.holds Try.pinned (OpenSpec.ofChange kernStampsSpec)

/-- ITS FALSE NEIGHBOUR: 'it returns false'. Refute it at one input. -/
def kernStampsWrong : ChangeSpec := { name := "kernStamps", fn := fun _ => fun
  | [d] => { results := [.lit (.bool false)], args := [d] }
  | _ => none }
def KernStampsWrongFalsely : Prop := kernStampsRow.holds Try.pinned (OpenSpec.ofChange kernStampsWrong)

/-- 'quarantinelaw24.KernNew': WHATEVER THE INPUT: true; the input reads as it did. -/
def kernNewSpec : ChangeSpec := { name := "kernNew", fn := fun _ => fun
  | [d] => { results := [.lit (.bool true)], args := [d] }
  | _ => none }
def kernNewRow : OpenClaim := { program := "ytmhdbphpmgjpcaa", sum := "85c6c6b6a4d00b98a5245d312ab77bf5d78623768f921689a9d2552190bed767", func := "quarantine/quarantinelaw24.KernNew", spec := "kernNew", unfollowed := true, recurses := true, apart := false }
def KernNewSaid : Prop := kernNewRow.holds Try.pinned (OpenSpec.ofChange kernNewSpec)

/-- ITS FALSE NEIGHBOUR: 'it returns false'. Refute it at one input. -/
def kernNewWrong : ChangeSpec := { name := "kernNew", fn := fun _ => fun
  | [d] => { results := [.lit (.bool false)], args := [d] }
  | _ => none }
def KernNewWrongFalsely : Prop := kernNewRow.holds Try.pinned (OpenSpec.ofChange kernNewWrong)

/-- 'quarantinelaw24.KernPosts': WHATEVER THE INPUT: true; the input reads as it did. -/
def kernPostsSpec : ChangeSpec := { name := "kernPosts", fn := fun _ => fun
  | [d1, d2] => { results := [.lit (.bool true)], args := [d1, d2] }
  | _ => none }
def kernPostsRow : OpenClaim := { program := "ytmhdbphpmgjpcaa", sum := "85c6c6b6a4d00b98a5245d312ab77bf5d78623768f921689a9d2552190bed767", func := "quarantine/quarantinelaw24.KernPosts", spec := "kernPosts", unfollowed := true, recurses := true, apart := false }
def KernPostsSaid : Prop := kernPostsRow.holds Try.pinned (OpenSpec.ofChange kernPostsSpec)

/-- ITS FALSE NEIGHBOUR: 'it returns false'. Refute it at one input. -/
def kernPostsWrong : ChangeSpec := { name := "kernPosts", fn := fun _ => fun
  | [d1, d2] => { results := [.lit (.bool false)], args := [d1, d2] }
  | _ => none }
def KernPostsWrongFalsely : Prop := kernPostsRow.holds Try.pinned (OpenSpec.ofChange kernPostsWrong)

/-- 'quarantinelaw24.KernAll': WHATEVER THE INPUT: true; the input reads as it did. -/
def kernAllSpec : ChangeSpec := { name := "kernAll", fn := fun _ => fun
  | [d1, d2] => { results := [.lit (.bool true)], args := [d1, d2] }
  | _ => none }
def kernAllRow : OpenClaim := { program := "ytmhdbphpmgjpcaa", sum := "85c6c6b6a4d00b98a5245d312ab77bf5d78623768f921689a9d2552190bed767", func := "quarantine/quarantinelaw24.KernAll", spec := "kernAll", inPlace := ["maps.clone"], unfollowed := true, recurses := true, apart := false }
def KernAllSaid : Prop := kernAllRow.holds Try.pinned (OpenSpec.ofChange kernAllSpec)

/-- ITS FALSE NEIGHBOUR: 'it returns false'. Refute it at one input. -/
def kernAllWrong : ChangeSpec := { name := "kernAll", fn := fun _ => fun
  | [d1, d2] => { results := [.lit (.bool false)], args := [d1, d2] }
  | _ => none }
def KernAllWrongFalsely : Prop := kernAllRow.holds Try.pinned (OpenSpec.ofChange kernAllWrong)

/-- 'quarantinelaw24.KernRises': WHATEVER THE INPUT: true; the input reads as it did. -/
def kernRisesSpec : ChangeSpec := { name := "kernRises", fn := fun _ => fun
  | [d1, d2] => { results := [.lit (.bool true)], args := [d1, d2] }
  | _ => none }
def kernRisesRow : OpenClaim := { program := "ytmhdbphpmgjpcaa", sum := "85c6c6b6a4d00b98a5245d312ab77bf5d78623768f921689a9d2552190bed767", func := "quarantine/quarantinelaw24.KernRises", spec := "kernRises", inPlace := ["maps.clone"], unfollowed := true, recurses := true, apart := false }
def KernRisesSaid : Prop := kernRisesRow.holds Try.pinned (OpenSpec.ofChange kernRisesSpec)

/-- ITS FALSE NEIGHBOUR: 'it returns false'. Refute it at one input. -/
def kernRisesWrong : ChangeSpec := { name := "kernRises", fn := fun _ => fun
  | [d1, d2] => { results := [.lit (.bool false)], args := [d1, d2] }
  | _ => none }
def KernRisesWrongFalsely : Prop := kernRisesRow.holds Try.pinned (OpenSpec.ofChange kernRisesWrong)

/-- 'quarantinelaw19.LockShares': WHATEVER THE INPUT: true; the input reads as it did. -/
def lockSharesSpec : ChangeSpec := { name := "lockShares", fn := fun _ => fun
  | [d1, d2, d3] => { results := [.lit (.bool true)], args := [d1, d2, d3] }
  | _ => none }
def lockSharesRow : OpenClaim := { program := "ytmhdbphpmgjpcaa", sum := "85c6c6b6a4d00b98a5245d312ab77bf5d78623768f921689a9d2552190bed767", func := "quarantine/quarantinelaw19.LockShares", spec := "lockShares", unfollowed := true, recurses := true, apart := false }
def LockSharesSaid : Prop := lockSharesRow.holds Try.pinned (OpenSpec.ofChange lockSharesSpec)

/-- ITS FALSE NEIGHBOUR: 'it returns false'. Refute it at one input. -/
def lockSharesWrong : ChangeSpec := { name := "lockShares", fn := fun _ => fun
  | [d1, d2, d3] => { results := [.lit (.bool false)], args := [d1, d2, d3] }
  | _ => none }
def LockSharesWrongFalsely : Prop := lockSharesRow.holds Try.pinned (OpenSpec.ofChange lockSharesWrong)

/-- 'quarantinelaw19.LockRing': WHATEVER THE INPUT: true; the input reads as it did. -/
def lockRingSpec : ChangeSpec := { name := "lockRing", fn := fun _ => fun
  | [d] => { results := [.lit (.bool true)], args := [d] }
  | _ => none }
def lockRingRow : OpenClaim := { program := "ytmhdbphpmgjpcaa", sum := "85c6c6b6a4d00b98a5245d312ab77bf5d78623768f921689a9d2552190bed767", func := "quarantine/quarantinelaw19.LockRing", spec := "lockRing", unfollowed := true, recurses := true, apart := false }
def LockRingSaid : Prop := lockRingRow.holds Try.pinned (OpenSpec.ofChange lockRingSpec)

/-- ITS FALSE NEIGHBOUR: 'it returns false'. Refute it at one input. -/
def lockRingWrong : ChangeSpec := { name := "lockRing", fn := fun _ => fun
  | [d] => { results := [.lit (.bool false)], args := [d] }
  | _ => none }
def LockRingWrongFalsely : Prop := lockRingRow.holds Try.pinned (OpenSpec.ofChange lockRingWrong)

/-- 'quarantinelaw19.LockUp': WHATEVER THE INPUT: true; the input reads as it did. -/
def lockUpSpec : ChangeSpec := { name := "lockUp", fn := fun _ => fun
  | [d1, d2] => { results := [.lit (.bool true)], args := [d1, d2] }
  | _ => none }
def lockUpRow : OpenClaim := { program := "ytmhdbphpmgjpcaa", sum := "85c6c6b6a4d00b98a5245d312ab77bf5d78623768f921689a9d2552190bed767", func := "quarantine/quarantinelaw19.LockUp", spec := "lockUp", unfollowed := true, recurses := true, apart := false }
def LockUpSaid : Prop := lockUpRow.holds Try.pinned (OpenSpec.ofChange lockUpSpec)

/-- ITS FALSE NEIGHBOUR: 'it returns false'. Refute it at one input. -/
def lockUpWrong : ChangeSpec := { name := "lockUp", fn := fun _ => fun
  | [d1, d2] => { results := [.lit (.bool false)], args := [d1, d2] }
  | _ => none }
def LockUpWrongFalsely : Prop := lockUpRow.holds Try.pinned (OpenSpec.ofChange lockUpWrong)

/-- 'quarantinelaw19.LockDooms': WHATEVER THE INPUT: true; the input reads as it did. -/
def lockDoomsSpec : ChangeSpec := { name := "lockDooms", fn := fun _ => fun
  | [d1, d2, d3, d4, d5] => { results := [.lit (.bool true)], args := [d1, d2, d3, d4, d5] }
  | _ => none }
def lockDoomsRow : OpenClaim := { program := "ytmhdbphpmgjpcaa", sum := "85c6c6b6a4d00b98a5245d312ab77bf5d78623768f921689a9d2552190bed767", func := "quarantine/quarantinelaw19.LockDooms", spec := "lockDooms", unfollowed := true, recurses := true, apart := false }
def LockDoomsSaid : Prop := lockDoomsRow.holds Try.pinned (OpenSpec.ofChange lockDoomsSpec)

/-- ITS FALSE NEIGHBOUR: 'it returns false'. Refute it at one input. -/
def lockDoomsWrong : ChangeSpec := { name := "lockDooms", fn := fun _ => fun
  | [d1, d2, d3, d4, d5] => { results := [.lit (.bool false)], args := [d1, d2, d3, d4, d5] }
  | _ => none }
def LockDoomsWrongFalsely : Prop := lockDoomsRow.holds Try.pinned (OpenSpec.ofChange lockDoomsWrong)

/-- 'quarantinelaw19.LockAll': WHATEVER THE INPUT: true; the input reads as it did. -/
def lockAllSpec : ChangeSpec := { name := "lockAll", fn := fun _ => fun
  | [d] => { results := [.lit (.bool true)], args := [d] }
  | _ => none }
def lockAllRow : OpenClaim := { program := "ytmhdbphpmgjpcaa", sum := "85c6c6b6a4d00b98a5245d312ab77bf5d78623768f921689a9d2552190bed767", func := "quarantine/quarantinelaw19.LockAll", spec := "lockAll", unfollowed := true, recurses := true, apart := false }
def LockAllSaid : Prop := lockAllRow.holds Try.pinned (OpenSpec.ofChange lockAllSpec)

/-- ITS FALSE NEIGHBOUR: 'it returns false'. Refute it at one input. -/
def lockAllWrong : ChangeSpec := { name := "lockAll", fn := fun _ => fun
  | [d] => { results := [.lit (.bool false)], args := [d] }
  | _ => none }
def LockAllWrongFalsely : Prop := lockAllRow.holds Try.pinned (OpenSpec.ofChange lockAllWrong)

/-- 'quarantinelaw19.LockNone': WHATEVER THE INPUT: true; the input reads as it did. -/
def lockNoneSpec : ChangeSpec := { name := "lockNone", fn := fun _ => fun
  | [] => { results := [.lit (.bool true)], args := [] }
  | _ => none }
def lockNoneRow : OpenClaim := { program := "ytmhdbphpmgjpcaa", sum := "85c6c6b6a4d00b98a5245d312ab77bf5d78623768f921689a9d2552190bed767", func := "quarantine/quarantinelaw19.LockNone", spec := "lockNone", unfollowed := true, recurses := true, apart := false }
def LockNoneSaid : Prop := lockNoneRow.holds Try.pinned (OpenSpec.ofChange lockNoneSpec)

/-- ITS FALSE NEIGHBOUR: 'it returns false'. Refute it at one input. -/
def lockNoneWrong : ChangeSpec := { name := "lockNone", fn := fun _ => fun
  | [] => { results := [.lit (.bool false)], args := [] }
  | _ => none }
def LockNoneWrongFalsely : Prop := lockNoneRow.holds Try.pinned (OpenSpec.ofChange lockNoneWrong)

/- THE SECOND FORM. 'bulk': how many values and letters a reading holds, each counted each time it is reached (what is shared counts as often as it is met; a slice's spare places count too). A statement '..UptoSaid' is the law's where the arguments, and the package variables that the reading takes, are together of bulk at most 1048576: NARROWER than '..Said'. Prove '..Said' where nothing that the law and all that it calls make is longer than what came in: it says more and counts as full. Else prove '..UptoSaid'. A law counts once. -/
mutual
def uptoBulk {H : Type} : DataW H → Nat
  | .lit (.string bytes) => bytes.length + 1
  | .lit _ => 1
  | .nil => 1
  | .ptr d => uptoBulk d + 1
  | .slice elems spare => uptoBulkAll elems + uptoBulkAll spare + 1
  | .agg parts => uptoBulkAll parts + 1
  | .iface _ d => uptoBulk d + 1
  | .map entries => uptoBulkEntries entries + 1
  | .held _ => 1
def uptoBulkAll {H : Type} : List (DataW H) → Nat
  | [] => 0
  | d :: r => uptoBulk d + uptoBulkAll r
def uptoBulkEntries {H : Type} : List (Lit × DataW H) → Nat
  | [] => 0
  | x :: r => uptoBulkEntry x + uptoBulkEntries r
def uptoBulkEntry {H : Type} : Lit × DataW H → Nat
  | (.string bytes, d) => bytes.length + uptoBulk d + 1
  | (_, d) => uptoBulk d + 1
 end
def uptoSmall : (H : Type) → List (DataW H) → Bool := fun _ ds => decide (uptoBulkAll ds ≤ 1048576)
def OpenSpec.upto (s : _root_.Go.ChangeSpec) : _root_.Go.OpenSpec := { _root_.Go.OpenSpec.ofChange s with cond := some uptoSmall }

/-- 'quarantinelaw20.PostAll', WHERE WHAT IT READS IS OF BULK AT MOST 1048576: true; the input reads as it did. -/
def postAllUptoRow : OpenClaim := { program := "ytmhdbphpmgjpcaa", sum := "85c6c6b6a4d00b98a5245d312ab77bf5d78623768f921689a9d2552190bed767", func := "quarantine/quarantinelaw20.PostAll", spec := "postAll", apart := false, narrowed := true }
def PostAllUptoSaid : Prop := postAllUptoRow.holds Try.pinned (OpenSpec.upto postAllSpec)

/-- 'quarantinelaw20.PostMerges', WHERE WHAT IT READS IS OF BULK AT MOST 1048576: true; the input reads as it did. -/
def postMergesUptoRow : OpenClaim := { program := "ytmhdbphpmgjpcaa", sum := "85c6c6b6a4d00b98a5245d312ab77bf5d78623768f921689a9d2552190bed767", func := "quarantine/quarantinelaw20.PostMerges", spec := "postMerges", apart := false, narrowed := true }
def PostMergesUptoSaid : Prop := postMergesUptoRow.holds Try.pinned (OpenSpec.upto postMergesSpec)

/-- 'quarantinelaw24.KernStamps', WHERE WHAT IT READS IS OF BULK AT MOST 1048576: true; the input reads as it did. -/
def kernStampsUptoRow : OpenClaim := { program := "ytmhdbphpmgjpcaa", sum := "85c6c6b6a4d00b98a5245d312ab77bf5d78623768f921689a9d2552190bed767", func := "quarantine/quarantinelaw24.KernStamps", spec := "kernStamps", unfollowed := true, recurses := true, apart := false, narrowed := true }
def KernStampsUptoSaid : Prop := kernStampsUptoRow.holds Try.pinned (OpenSpec.upto kernStampsSpec)

/-- 'quarantinelaw24.KernNew', WHERE WHAT IT READS IS OF BULK AT MOST 1048576: true; the input reads as it did. -/
def kernNewUptoRow : OpenClaim := { program := "ytmhdbphpmgjpcaa", sum := "85c6c6b6a4d00b98a5245d312ab77bf5d78623768f921689a9d2552190bed767", func := "quarantine/quarantinelaw24.KernNew", spec := "kernNew", unfollowed := true, recurses := true, apart := false, narrowed := true }
def KernNewUptoSaid : Prop := kernNewUptoRow.holds Try.pinned (OpenSpec.upto kernNewSpec)

/-- 'quarantinelaw24.KernPosts', WHERE WHAT IT READS IS OF BULK AT MOST 1048576: true; the input reads as it did. -/
def kernPostsUptoRow : OpenClaim := { program := "ytmhdbphpmgjpcaa", sum := "85c6c6b6a4d00b98a5245d312ab77bf5d78623768f921689a9d2552190bed767", func := "quarantine/quarantinelaw24.KernPosts", spec := "kernPosts", unfollowed := true, recurses := true, apart := false, narrowed := true }
def KernPostsUptoSaid : Prop := kernPostsUptoRow.holds Try.pinned (OpenSpec.upto kernPostsSpec)

/-- 'quarantinelaw24.KernAll', WHERE WHAT IT READS IS OF BULK AT MOST 1048576: true; the input reads as it did. -/
def kernAllUptoRow : OpenClaim := { program := "ytmhdbphpmgjpcaa", sum := "85c6c6b6a4d00b98a5245d312ab77bf5d78623768f921689a9d2552190bed767", func := "quarantine/quarantinelaw24.KernAll", spec := "kernAll", inPlace := ["maps.clone"], unfollowed := true, recurses := true, apart := false, narrowed := true }
def KernAllUptoSaid : Prop := kernAllUptoRow.holds Try.pinned (OpenSpec.upto kernAllSpec)

/-- 'quarantinelaw24.KernRises', WHERE WHAT IT READS IS OF BULK AT MOST 1048576: true; the input reads as it did. -/
def kernRisesUptoRow : OpenClaim := { program := "ytmhdbphpmgjpcaa", sum := "85c6c6b6a4d00b98a5245d312ab77bf5d78623768f921689a9d2552190bed767", func := "quarantine/quarantinelaw24.KernRises", spec := "kernRises", inPlace := ["maps.clone"], unfollowed := true, recurses := true, apart := false, narrowed := true }
def KernRisesUptoSaid : Prop := kernRisesUptoRow.holds Try.pinned (OpenSpec.upto kernRisesSpec)

/-- 'quarantinelaw19.LockShares', WHERE WHAT IT READS IS OF BULK AT MOST 1048576: true; the input reads as it did. -/
def lockSharesUptoRow : OpenClaim := { program := "ytmhdbphpmgjpcaa", sum := "85c6c6b6a4d00b98a5245d312ab77bf5d78623768f921689a9d2552190bed767", func := "quarantine/quarantinelaw19.LockShares", spec := "lockShares", unfollowed := true, recurses := true, apart := false, narrowed := true }
def LockSharesUptoSaid : Prop := lockSharesUptoRow.holds Try.pinned (OpenSpec.upto lockSharesSpec)

/-- 'quarantinelaw19.LockRing', WHERE WHAT IT READS IS OF BULK AT MOST 1048576: true; the input reads as it did. -/
def lockRingUptoRow : OpenClaim := { program := "ytmhdbphpmgjpcaa", sum := "85c6c6b6a4d00b98a5245d312ab77bf5d78623768f921689a9d2552190bed767", func := "quarantine/quarantinelaw19.LockRing", spec := "lockRing", unfollowed := true, recurses := true, apart := false, narrowed := true }
def LockRingUptoSaid : Prop := lockRingUptoRow.holds Try.pinned (OpenSpec.upto lockRingSpec)

/-- 'quarantinelaw19.LockUp', WHERE WHAT IT READS IS OF BULK AT MOST 1048576: true; the input reads as it did. -/
def lockUpUptoRow : OpenClaim := { program := "ytmhdbphpmgjpcaa", sum := "85c6c6b6a4d00b98a5245d312ab77bf5d78623768f921689a9d2552190bed767", func := "quarantine/quarantinelaw19.LockUp", spec := "lockUp", unfollowed := true, recurses := true, apart := false, narrowed := true }
def LockUpUptoSaid : Prop := lockUpUptoRow.holds Try.pinned (OpenSpec.upto lockUpSpec)

/-- 'quarantinelaw19.LockDooms', WHERE WHAT IT READS IS OF BULK AT MOST 1048576: true; the input reads as it did. -/
def lockDoomsUptoRow : OpenClaim := { program := "ytmhdbphpmgjpcaa", sum := "85c6c6b6a4d00b98a5245d312ab77bf5d78623768f921689a9d2552190bed767", func := "quarantine/quarantinelaw19.LockDooms", spec := "lockDooms", unfollowed := true, recurses := true, apart := false, narrowed := true }
def LockDoomsUptoSaid : Prop := lockDoomsUptoRow.holds Try.pinned (OpenSpec.upto lockDoomsSpec)

/-- 'quarantinelaw19.LockAll', WHERE WHAT IT READS IS OF BULK AT MOST 1048576: true; the input reads as it did. -/
def lockAllUptoRow : OpenClaim := { program := "ytmhdbphpmgjpcaa", sum := "85c6c6b6a4d00b98a5245d312ab77bf5d78623768f921689a9d2552190bed767", func := "quarantine/quarantinelaw19.LockAll", spec := "lockAll", unfollowed := true, recurses := true, apart := false, narrowed := true }
def LockAllUptoSaid : Prop := lockAllUptoRow.holds Try.pinned (OpenSpec.upto lockAllSpec)

/-- 'quarantinelaw19.LockNone', WHERE WHAT IT READS IS OF BULK AT MOST 1048576: true; the input reads as it did. -/
def lockNoneUptoRow : OpenClaim := { program := "ytmhdbphpmgjpcaa", sum := "85c6c6b6a4d00b98a5245d312ab77bf5d78623768f921689a9d2552190bed767", func := "quarantine/quarantinelaw19.LockNone", spec := "lockNone", unfollowed := true, recurses := true, apart := false, narrowed := true }
def LockNoneUptoSaid : Prop := lockNoneUptoRow.holds Try.pinned (OpenSpec.upto lockNoneSpec)

end Rows
end Go.Proofs.Ytmhdbphpmgjpcaa
