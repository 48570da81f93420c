/-
  No cell of these rows narrows 'for every input' (looked for: loops, veiled, ifaces, maps, wideKeys, modest, calm, conditions, laid).
  DERIVED. THE GIVEN ROWS OF THIS SEAT. 12 by the template 'for every input the law returns true; each argument reads behind the call as it read before'; 0 by the template 'total and deterministic' (their statements: YtphjmmaeolbggaaTotals.lean).
  GIVEN WITH THE SEED: the statements are not yours to turn. If you find one false, say at which input.
  Laid BY PROGRAM, IN A SANDBOX (cutbox-rows.mjs): the forced cells as the released guide's own fill.sh prints them over the translation 32a722112ee931fb… (all of the seat's roots in one cut). By AI agents, Wed Nov 11 2026. No macro, syntax, notation, axiom, sorry.
-/
import Derived.Test.YtphjmmaeolbggaaChecked
import GoSem.Claim
import GoSem.ClaimJoined
import GoSem.ClaimMapViews
import Derived.JoinedTies
import Derived.KernelRfl
namespace Go.Proofs.Ytphjmmaeolbggaa
/- THE CELL 'sum', in the pinned program and in every row, IS THE sha256 OF THE DUMP (.gsa) THAT YtphjmmaeolbggaaProg.lean LOADS. Nothing in Lean hashes anything: it is a label: what it is worth is what the hold of that sum in a sandbox is worth. -/
noncomputable def Try.pinned : Pinned := { name := "ytphjmmaeolbggaa", sum := "32a722112ee931fb18ec97bba485d205a0ace13a4428ac8b195f29a12cd104c5", checked := Try.checked }
namespace Rows
def none {H : Type} : Left H := { results := [], args := [] }

/-- 'laws.FnExactWhoIs': WHATEVER THE INPUT: true; the input reads as it did. -/
def fnExactWhoIsSpec : ChangeSpec := { name := "fnExactWhoIs", fn := fun _ => fun
  | [d1, d2, d3] => { results := [.lit (.bool true)], args := [d1, d2, d3] }
  | _ => none }
def fnExactWhoIsRow : OpenClaim := { program := "ytphjmmaeolbggaa", sum := "32a722112ee931fb18ec97bba485d205a0ace13a4428ac8b195f29a12cd104c5", func := "loop.example/g01008/laws.FnExactWhoIs", spec := "fnExactWhoIs", inPlace := ["internal/bytealg.IndexByteString"], unfollowed := true, recurses := true, apart := false }
def FnExactWhoIsSaid : Prop := fnExactWhoIsRow.holds Try.pinned (OpenSpec.ofChange fnExactWhoIsSpec)

/-- ITS FALSE NEIGHBOUR: 'it returns false'. Refute it at one input. -/
def fnExactWhoIsWrong : ChangeSpec := { name := "fnExactWhoIs", fn := fun _ => fun
  | [d1, d2, d3] => { results := [.lit (.bool false)], args := [d1, d2, d3] }
  | _ => none }
def FnExactWhoIsWrongFalsely : Prop := fnExactWhoIsRow.holds Try.pinned (OpenSpec.ofChange fnExactWhoIsWrong)

/-- 'laws.FnExactLongNotes': WHATEVER THE INPUT: true; the input reads as it did. -/
def fnExactLongNotesSpec : ChangeSpec := { name := "fnExactLongNotes", fn := fun _ => fun
  | [d1, d2] => { results := [.lit (.bool true)], args := [d1, d2] }
  | _ => none }
def fnExactLongNotesRow : OpenClaim := { program := "ytphjmmaeolbggaa", sum := "32a722112ee931fb18ec97bba485d205a0ace13a4428ac8b195f29a12cd104c5", func := "loop.example/g01008/laws.FnExactLongNotes", spec := "fnExactLongNotes", inPlace := ["internal/bytealg.IndexByteString"], unfollowed := true, recurses := true, apart := false }
def FnExactLongNotesSaid : Prop := fnExactLongNotesRow.holds Try.pinned (OpenSpec.ofChange fnExactLongNotesSpec)

/-- ITS FALSE NEIGHBOUR: 'it returns false'. Refute it at one input. -/
def fnExactLongNotesWrong : ChangeSpec := { name := "fnExactLongNotes", fn := fun _ => fun
  | [d1, d2] => { results := [.lit (.bool false)], args := [d1, d2] }
  | _ => none }
def FnExactLongNotesWrongFalsely : Prop := fnExactLongNotesRow.holds Try.pinned (OpenSpec.ofChange fnExactLongNotesWrong)

/-- 'laws.FnExactRenamePerson': WHATEVER THE INPUT: true; the input reads as it did. -/
def fnExactRenamePersonSpec : ChangeSpec := { name := "fnExactRenamePerson", fn := fun _ => fun
  | [d1, d2, d3, d4, d5] => { results := [.lit (.bool true)], args := [d1, d2, d3, d4, d5] }
  | _ => none }
def fnExactRenamePersonRow : OpenClaim := { program := "ytphjmmaeolbggaa", sum := "32a722112ee931fb18ec97bba485d205a0ace13a4428ac8b195f29a12cd104c5", func := "loop.example/g01008/laws.FnExactRenamePerson", spec := "fnExactRenamePerson", inPlace := ["internal/bytealg.IndexByteString"], unfollowed := true, recurses := true, apart := false }
def FnExactRenamePersonSaid : Prop := fnExactRenamePersonRow.holds Try.pinned (OpenSpec.ofChange fnExactRenamePersonSpec)

/-- ITS FALSE NEIGHBOUR: 'it returns false'. Refute it at one input. -/
def fnExactRenamePersonWrong : ChangeSpec := { name := "fnExactRenamePerson", fn := fun _ => fun
  | [d1, d2, d3, d4, d5] => { results := [.lit (.bool false)], args := [d1, d2, d3, d4, d5] }
  | _ => none }
def FnExactRenamePersonWrongFalsely : Prop := fnExactRenamePersonRow.holds Try.pinned (OpenSpec.ofChange fnExactRenamePersonWrong)

/-- 'laws.FnExactFewestChanges': WHATEVER THE INPUT: true; the input reads as it did. -/
def fnExactFewestChangesSpec : ChangeSpec := { name := "fnExactFewestChanges", fn := fun _ => fun
  | [d] => { results := [.lit (.bool true)], args := [d] }
  | _ => none }
def fnExactFewestChangesRow : OpenClaim := { program := "ytphjmmaeolbggaa", sum := "32a722112ee931fb18ec97bba485d205a0ace13a4428ac8b195f29a12cd104c5", func := "loop.example/g01008/laws.FnExactFewestChanges", spec := "fnExactFewestChanges", inPlace := ["internal/bytealg.IndexByteString"], unfollowed := true, recurses := true, apart := false }
def FnExactFewestChangesSaid : Prop := fnExactFewestChangesRow.holds Try.pinned (OpenSpec.ofChange fnExactFewestChangesSpec)

/-- ITS FALSE NEIGHBOUR: 'it returns false'. Refute it at one input. -/
def fnExactFewestChangesWrong : ChangeSpec := { name := "fnExactFewestChanges", fn := fun _ => fun
  | [d] => { results := [.lit (.bool false)], args := [d] }
  | _ => none }
def FnExactFewestChangesWrongFalsely : Prop := fnExactFewestChangesRow.holds Try.pinned (OpenSpec.ofChange fnExactFewestChangesWrong)

/-- 'laws.FnExactSolveClashes': WHATEVER THE INPUT: true; the input reads as it did. -/
def fnExactSolveClashesSpec : ChangeSpec := { name := "fnExactSolveClashes", fn := fun _ => fun
  | [d1, d2] => { results := [.lit (.bool true)], args := [d1, d2] }
  | _ => none }
def fnExactSolveClashesRow : OpenClaim := { program := "ytphjmmaeolbggaa", sum := "32a722112ee931fb18ec97bba485d205a0ace13a4428ac8b195f29a12cd104c5", func := "loop.example/g01008/laws.FnExactSolveClashes", spec := "fnExactSolveClashes", inPlace := ["internal/bytealg.IndexByteString"], unfollowed := true, recurses := true, apart := false }
def FnExactSolveClashesSaid : Prop := fnExactSolveClashesRow.holds Try.pinned (OpenSpec.ofChange fnExactSolveClashesSpec)

/-- ITS FALSE NEIGHBOUR: 'it returns false'. Refute it at one input. -/
def fnExactSolveClashesWrong : ChangeSpec := { name := "fnExactSolveClashes", fn := fun _ => fun
  | [d1, d2] => { results := [.lit (.bool false)], args := [d1, d2] }
  | _ => none }
def FnExactSolveClashesWrongFalsely : Prop := fnExactSolveClashesRow.holds Try.pinned (OpenSpec.ofChange fnExactSolveClashesWrong)

/-- 'laws.FnExactCommonNotes': WHATEVER THE INPUT: true; the input reads as it did. -/
def fnExactCommonNotesSpec : ChangeSpec := { name := "fnExactCommonNotes", fn := fun _ => fun
  | [d1, d2] => { results := [.lit (.bool true)], args := [d1, d2] }
  | _ => none }
def fnExactCommonNotesRow : OpenClaim := { program := "ytphjmmaeolbggaa", sum := "32a722112ee931fb18ec97bba485d205a0ace13a4428ac8b195f29a12cd104c5", func := "loop.example/g01008/laws.FnExactCommonNotes", spec := "fnExactCommonNotes", inPlace := ["internal/bytealg.IndexByteString"], unfollowed := true, recurses := true, apart := false }
def FnExactCommonNotesSaid : Prop := fnExactCommonNotesRow.holds Try.pinned (OpenSpec.ofChange fnExactCommonNotesSpec)

/-- ITS FALSE NEIGHBOUR: 'it returns false'. Refute it at one input. -/
def fnExactCommonNotesWrong : ChangeSpec := { name := "fnExactCommonNotes", fn := fun _ => fun
  | [d1, d2] => { results := [.lit (.bool false)], args := [d1, d2] }
  | _ => none }
def FnExactCommonNotesWrongFalsely : Prop := fnExactCommonNotesRow.holds Try.pinned (OpenSpec.ofChange fnExactCommonNotesWrong)

/-- 'laws.FnExactOnlyIn': WHATEVER THE INPUT: true; the input reads as it did. -/
def fnExactOnlyInSpec : ChangeSpec := { name := "fnExactOnlyIn", fn := fun _ => fun
  | [d1, d2] => { results := [.lit (.bool true)], args := [d1, d2] }
  | _ => none }
def fnExactOnlyInRow : OpenClaim := { program := "ytphjmmaeolbggaa", sum := "32a722112ee931fb18ec97bba485d205a0ace13a4428ac8b195f29a12cd104c5", func := "loop.example/g01008/laws.FnExactOnlyIn", spec := "fnExactOnlyIn", inPlace := ["internal/bytealg.IndexByteString"], unfollowed := true, recurses := true, apart := false }
def FnExactOnlyInSaid : Prop := fnExactOnlyInRow.holds Try.pinned (OpenSpec.ofChange fnExactOnlyInSpec)

/-- ITS FALSE NEIGHBOUR: 'it returns false'. Refute it at one input. -/
def fnExactOnlyInWrong : ChangeSpec := { name := "fnExactOnlyIn", fn := fun _ => fun
  | [d1, d2] => { results := [.lit (.bool false)], args := [d1, d2] }
  | _ => none }
def FnExactOnlyInWrongFalsely : Prop := fnExactOnlyInRow.holds Try.pinned (OpenSpec.ofChange fnExactOnlyInWrong)

/-- 'laws.FnExactAgreedFrames': WHATEVER THE INPUT: true; the input reads as it did. -/
def fnExactAgreedFramesSpec : ChangeSpec := { name := "fnExactAgreedFrames", fn := fun _ => fun
  | [d1, d2] => { results := [.lit (.bool true)], args := [d1, d2] }
  | _ => none }
def fnExactAgreedFramesRow : OpenClaim := { program := "ytphjmmaeolbggaa", sum := "32a722112ee931fb18ec97bba485d205a0ace13a4428ac8b195f29a12cd104c5", func := "loop.example/g01008/laws.FnExactAgreedFrames", spec := "fnExactAgreedFrames", inPlace := ["internal/bytealg.IndexByteString"], unfollowed := true, recurses := true, apart := false }
def FnExactAgreedFramesSaid : Prop := fnExactAgreedFramesRow.holds Try.pinned (OpenSpec.ofChange fnExactAgreedFramesSpec)

/-- ITS FALSE NEIGHBOUR: 'it returns false'. Refute it at one input. -/
def fnExactAgreedFramesWrong : ChangeSpec := { name := "fnExactAgreedFrames", fn := fun _ => fun
  | [d1, d2] => { results := [.lit (.bool false)], args := [d1, d2] }
  | _ => none }
def FnExactAgreedFramesWrongFalsely : Prop := fnExactAgreedFramesRow.holds Try.pinned (OpenSpec.ofChange fnExactAgreedFramesWrong)

/-- 'laws.FnExactDisputedFrames': WHATEVER THE INPUT: true; the input reads as it did. -/
def fnExactDisputedFramesSpec : ChangeSpec := { name := "fnExactDisputedFrames", fn := fun _ => fun
  | [d1, d2] => { results := [.lit (.bool true)], args := [d1, d2] }
  | _ => none }
def fnExactDisputedFramesRow : OpenClaim := { program := "ytphjmmaeolbggaa", sum := "32a722112ee931fb18ec97bba485d205a0ace13a4428ac8b195f29a12cd104c5", func := "loop.example/g01008/laws.FnExactDisputedFrames", spec := "fnExactDisputedFrames", inPlace := ["internal/bytealg.IndexByteString"], unfollowed := true, recurses := true, apart := false }
def FnExactDisputedFramesSaid : Prop := fnExactDisputedFramesRow.holds Try.pinned (OpenSpec.ofChange fnExactDisputedFramesSpec)

/-- ITS FALSE NEIGHBOUR: 'it returns false'. Refute it at one input. -/
def fnExactDisputedFramesWrong : ChangeSpec := { name := "fnExactDisputedFrames", fn := fun _ => fun
  | [d1, d2] => { results := [.lit (.bool false)], args := [d1, d2] }
  | _ => none }
def FnExactDisputedFramesWrongFalsely : Prop := fnExactDisputedFramesRow.holds Try.pinned (OpenSpec.ofChange fnExactDisputedFramesWrong)

/-- 'laws.FnExactFirstDispute': WHATEVER THE INPUT: true; the input reads as it did. -/
def fnExactFirstDisputeSpec : ChangeSpec := { name := "fnExactFirstDispute", fn := fun _ => fun
  | [d1, d2] => { results := [.lit (.bool true)], args := [d1, d2] }
  | _ => none }
def fnExactFirstDisputeRow : OpenClaim := { program := "ytphjmmaeolbggaa", sum := "32a722112ee931fb18ec97bba485d205a0ace13a4428ac8b195f29a12cd104c5", func := "loop.example/g01008/laws.FnExactFirstDispute", spec := "fnExactFirstDispute", inPlace := ["internal/bytealg.IndexByteString"], unfollowed := true, recurses := true, apart := false }
def FnExactFirstDisputeSaid : Prop := fnExactFirstDisputeRow.holds Try.pinned (OpenSpec.ofChange fnExactFirstDisputeSpec)

/-- ITS FALSE NEIGHBOUR: 'it returns false'. Refute it at one input. -/
def fnExactFirstDisputeWrong : ChangeSpec := { name := "fnExactFirstDispute", fn := fun _ => fun
  | [d1, d2] => { results := [.lit (.bool false)], args := [d1, d2] }
  | _ => none }
def FnExactFirstDisputeWrongFalsely : Prop := fnExactFirstDisputeRow.holds Try.pinned (OpenSpec.ofChange fnExactFirstDisputeWrong)

/-- 'laws.FnExactBestAnnotator': WHATEVER THE INPUT: true; the input reads as it did. -/
def fnExactBestAnnotatorSpec : ChangeSpec := { name := "fnExactBestAnnotator", fn := fun _ => fun
  | [d1, d2, d3] => { results := [.lit (.bool true)], args := [d1, d2, d3] }
  | _ => none }
def fnExactBestAnnotatorRow : OpenClaim := { program := "ytphjmmaeolbggaa", sum := "32a722112ee931fb18ec97bba485d205a0ace13a4428ac8b195f29a12cd104c5", func := "loop.example/g01008/laws.FnExactBestAnnotator", spec := "fnExactBestAnnotator", inPlace := ["internal/bytealg.IndexByteString"], unfollowed := true, recurses := true, apart := false }
def FnExactBestAnnotatorSaid : Prop := fnExactBestAnnotatorRow.holds Try.pinned (OpenSpec.ofChange fnExactBestAnnotatorSpec)

/-- ITS FALSE NEIGHBOUR: 'it returns false'. Refute it at one input. -/
def fnExactBestAnnotatorWrong : ChangeSpec := { name := "fnExactBestAnnotator", fn := fun _ => fun
  | [d1, d2, d3] => { results := [.lit (.bool false)], args := [d1, d2, d3] }
  | _ => none }
def FnExactBestAnnotatorWrongFalsely : Prop := fnExactBestAnnotatorRow.holds Try.pinned (OpenSpec.ofChange fnExactBestAnnotatorWrong)

/-- 'laws.FnExactJoinNotes': WHATEVER THE INPUT: true; the input reads as it did. -/
def fnExactJoinNotesSpec : ChangeSpec := { name := "fnExactJoinNotes", fn := fun _ => fun
  | [d1, d2] => { results := [.lit (.bool true)], args := [d1, d2] }
  | _ => none }
def fnExactJoinNotesRow : OpenClaim := { program := "ytphjmmaeolbggaa", sum := "32a722112ee931fb18ec97bba485d205a0ace13a4428ac8b195f29a12cd104c5", func := "loop.example/g01008/laws.FnExactJoinNotes", spec := "fnExactJoinNotes", inPlace := ["internal/bytealg.IndexByteString"], apart := false }
def FnExactJoinNotesSaid : Prop := fnExactJoinNotesRow.holds Try.pinned (OpenSpec.ofChange fnExactJoinNotesSpec)

/-- ITS FALSE NEIGHBOUR: 'it returns false'. Refute it at one input. -/
def fnExactJoinNotesWrong : ChangeSpec := { name := "fnExactJoinNotes", fn := fun _ => fun
  | [d1, d2] => { results := [.lit (.bool false)], args := [d1, d2] }
  | _ => none }
def FnExactJoinNotesWrongFalsely : Prop := fnExactJoinNotesRow.holds Try.pinned (OpenSpec.ofChange fnExactJoinNotesWrong)

/- THE SECOND FORM. 'bulk': how many values and letters a reading holds, each counted each time it is reached (what is shared counts as often as it is met; a slice's spare places count too). A statement '..UptoSaid' is the law's where the arguments, and the package variables that the reading takes, are together of bulk at most 1048576: NARROWER than '..Said'. Prove '..Said' where nothing that the law and all that it calls make is longer than what came in: it says more and counts as full. Else prove '..UptoSaid'. A law counts once. -/
mutual
def uptoBulk {H : Type} : DataW H → Nat
  | .lit (.string bytes) => bytes.length + 1
  | .lit _ => 1
  | .nil => 1
  | .ptr d => uptoBulk d + 1
  | .slice elems spare => uptoBulkAll elems + uptoBulkAll spare + 1
  | .agg parts => uptoBulkAll parts + 1
  | .iface _ d => uptoBulk d + 1
  | .map entries => uptoBulkEntries entries + 1
  | .held _ => 1
def uptoBulkAll {H : Type} : List (DataW H) → Nat
  | [] => 0
  | d :: r => uptoBulk d + uptoBulkAll r
def uptoBulkEntries {H : Type} : List (Lit × DataW H) → Nat
  | [] => 0
  | x :: r => uptoBulkEntry x + uptoBulkEntries r
def uptoBulkEntry {H : Type} : Lit × DataW H → Nat
  | (.string bytes, d) => bytes.length + uptoBulk d + 1
  | (_, d) => uptoBulk d + 1
 end
def uptoSmall : (H : Type) → List (DataW H) → Bool := fun _ ds => decide (uptoBulkAll ds ≤ 1048576)
def OpenSpec.upto (s : _root_.Go.ChangeSpec) : _root_.Go.OpenSpec := { _root_.Go.OpenSpec.ofChange s with cond := some uptoSmall }

/-- 'laws.FnExactWhoIs', WHERE WHAT IT READS IS OF BULK AT MOST 1048576: true; the input reads as it did. -/
def fnExactWhoIsUptoRow : OpenClaim := { program := "ytphjmmaeolbggaa", sum := "32a722112ee931fb18ec97bba485d205a0ace13a4428ac8b195f29a12cd104c5", func := "loop.example/g01008/laws.FnExactWhoIs", spec := "fnExactWhoIs", inPlace := ["internal/bytealg.IndexByteString"], unfollowed := true, recurses := true, apart := false, narrowed := true }
def FnExactWhoIsUptoSaid : Prop := fnExactWhoIsUptoRow.holds Try.pinned (OpenSpec.upto fnExactWhoIsSpec)

/-- 'laws.FnExactLongNotes', WHERE WHAT IT READS IS OF BULK AT MOST 1048576: true; the input reads as it did. -/
def fnExactLongNotesUptoRow : OpenClaim := { program := "ytphjmmaeolbggaa", sum := "32a722112ee931fb18ec97bba485d205a0ace13a4428ac8b195f29a12cd104c5", func := "loop.example/g01008/laws.FnExactLongNotes", spec := "fnExactLongNotes", inPlace := ["internal/bytealg.IndexByteString"], unfollowed := true, recurses := true, apart := false, narrowed := true }
def FnExactLongNotesUptoSaid : Prop := fnExactLongNotesUptoRow.holds Try.pinned (OpenSpec.upto fnExactLongNotesSpec)

/-- 'laws.FnExactRenamePerson', WHERE WHAT IT READS IS OF BULK AT MOST 1048576: true; the input reads as it did. -/
def fnExactRenamePersonUptoRow : OpenClaim := { program := "ytphjmmaeolbggaa", sum := "32a722112ee931fb18ec97bba485d205a0ace13a4428ac8b195f29a12cd104c5", func := "loop.example/g01008/laws.FnExactRenamePerson", spec := "fnExactRenamePerson", inPlace := ["internal/bytealg.IndexByteString"], unfollowed := true, recurses := true, apart := false, narrowed := true }
def FnExactRenamePersonUptoSaid : Prop := fnExactRenamePersonUptoRow.holds Try.pinned (OpenSpec.upto fnExactRenamePersonSpec)

/-- 'laws.FnExactFewestChanges', WHERE WHAT IT READS IS OF BULK AT MOST 1048576: true; the input reads as it did. -/
def fnExactFewestChangesUptoRow : OpenClaim := { program := "ytphjmmaeolbggaa", sum := "32a722112ee931fb18ec97bba485d205a0ace13a4428ac8b195f29a12cd104c5", func := "loop.example/g01008/laws.FnExactFewestChanges", spec := "fnExactFewestChanges", inPlace := ["internal/bytealg.IndexByteString"], unfollowed := true, recurses := true, apart := false, narrowed := true }
def FnExactFewestChangesUptoSaid : Prop := fnExactFewestChangesUptoRow.holds Try.pinned (OpenSpec.upto fnExactFewestChangesSpec)

/-- 'laws.FnExactSolveClashes', WHERE WHAT IT READS IS OF BULK AT MOST 1048576: true; the input reads as it did. -/
def fnExactSolveClashesUptoRow : OpenClaim := { program := "ytphjmmaeolbggaa", sum := "32a722112ee931fb18ec97bba485d205a0ace13a4428ac8b195f29a12cd104c5", func := "loop.example/g01008/laws.FnExactSolveClashes", spec := "fnExactSolveClashes", inPlace := ["internal/bytealg.IndexByteString"], unfollowed := true, recurses := true, apart := false, narrowed := true }
def FnExactSolveClashesUptoSaid : Prop := fnExactSolveClashesUptoRow.holds Try.pinned (OpenSpec.upto fnExactSolveClashesSpec)

/-- 'laws.FnExactCommonNotes', WHERE WHAT IT READS IS OF BULK AT MOST 1048576: true; the input reads as it did. -/
def fnExactCommonNotesUptoRow : OpenClaim := { program := "ytphjmmaeolbggaa", sum := "32a722112ee931fb18ec97bba485d205a0ace13a4428ac8b195f29a12cd104c5", func := "loop.example/g01008/laws.FnExactCommonNotes", spec := "fnExactCommonNotes", inPlace := ["internal/bytealg.IndexByteString"], unfollowed := true, recurses := true, apart := false, narrowed := true }
def FnExactCommonNotesUptoSaid : Prop := fnExactCommonNotesUptoRow.holds Try.pinned (OpenSpec.upto fnExactCommonNotesSpec)

/-- 'laws.FnExactOnlyIn', WHERE WHAT IT READS IS OF BULK AT MOST 1048576: true; the input reads as it did. -/
def fnExactOnlyInUptoRow : OpenClaim := { program := "ytphjmmaeolbggaa", sum := "32a722112ee931fb18ec97bba485d205a0ace13a4428ac8b195f29a12cd104c5", func := "loop.example/g01008/laws.FnExactOnlyIn", spec := "fnExactOnlyIn", inPlace := ["internal/bytealg.IndexByteString"], unfollowed := true, recurses := true, apart := false, narrowed := true }
def FnExactOnlyInUptoSaid : Prop := fnExactOnlyInUptoRow.holds Try.pinned (OpenSpec.upto fnExactOnlyInSpec)

/-- 'laws.FnExactAgreedFrames', WHERE WHAT IT READS IS OF BULK AT MOST 1048576: true; the input reads as it did. -/
def fnExactAgreedFramesUptoRow : OpenClaim := { program := "ytphjmmaeolbggaa", sum := "32a722112ee931fb18ec97bba485d205a0ace13a4428ac8b195f29a12cd104c5", func := "loop.example/g01008/laws.FnExactAgreedFrames", spec := "fnExactAgreedFrames", inPlace := ["internal/bytealg.IndexByteString"], unfollowed := true, recurses := true, apart := false, narrowed := true }
def FnExactAgreedFramesUptoSaid : Prop := fnExactAgreedFramesUptoRow.holds Try.pinned (OpenSpec.upto fnExactAgreedFramesSpec)

/-- 'laws.FnExactDisputedFrames', WHERE WHAT IT READS IS OF BULK AT MOST 1048576: true; the input reads as it did. -/
def fnExactDisputedFramesUptoRow : OpenClaim := { program := "ytphjmmaeolbggaa", sum := "32a722112ee931fb18ec97bba485d205a0ace13a4428ac8b195f29a12cd104c5", func := "loop.example/g01008/laws.FnExactDisputedFrames", spec := "fnExactDisputedFrames", inPlace := ["internal/bytealg.IndexByteString"], unfollowed := true, recurses := true, apart := false, narrowed := true }
def FnExactDisputedFramesUptoSaid : Prop := fnExactDisputedFramesUptoRow.holds Try.pinned (OpenSpec.upto fnExactDisputedFramesSpec)

/-- 'laws.FnExactFirstDispute', WHERE WHAT IT READS IS OF BULK AT MOST 1048576: true; the input reads as it did. -/
def fnExactFirstDisputeUptoRow : OpenClaim := { program := "ytphjmmaeolbggaa", sum := "32a722112ee931fb18ec97bba485d205a0ace13a4428ac8b195f29a12cd104c5", func := "loop.example/g01008/laws.FnExactFirstDispute", spec := "fnExactFirstDispute", inPlace := ["internal/bytealg.IndexByteString"], unfollowed := true, recurses := true, apart := false, narrowed := true }
def FnExactFirstDisputeUptoSaid : Prop := fnExactFirstDisputeUptoRow.holds Try.pinned (OpenSpec.upto fnExactFirstDisputeSpec)

/-- 'laws.FnExactBestAnnotator', WHERE WHAT IT READS IS OF BULK AT MOST 1048576: true; the input reads as it did. -/
def fnExactBestAnnotatorUptoRow : OpenClaim := { program := "ytphjmmaeolbggaa", sum := "32a722112ee931fb18ec97bba485d205a0ace13a4428ac8b195f29a12cd104c5", func := "loop.example/g01008/laws.FnExactBestAnnotator", spec := "fnExactBestAnnotator", inPlace := ["internal/bytealg.IndexByteString"], unfollowed := true, recurses := true, apart := false, narrowed := true }
def FnExactBestAnnotatorUptoSaid : Prop := fnExactBestAnnotatorUptoRow.holds Try.pinned (OpenSpec.upto fnExactBestAnnotatorSpec)

/-- 'laws.FnExactJoinNotes', WHERE WHAT IT READS IS OF BULK AT MOST 1048576: true; the input reads as it did. -/
def fnExactJoinNotesUptoRow : OpenClaim := { program := "ytphjmmaeolbggaa", sum := "32a722112ee931fb18ec97bba485d205a0ace13a4428ac8b195f29a12cd104c5", func := "loop.example/g01008/laws.FnExactJoinNotes", spec := "fnExactJoinNotes", inPlace := ["internal/bytealg.IndexByteString"], apart := false, narrowed := true }
def FnExactJoinNotesUptoSaid : Prop := fnExactJoinNotesUptoRow.holds Try.pinned (OpenSpec.upto fnExactJoinNotesSpec)

end Rows
end Go.Proofs.Ytphjmmaeolbggaa
