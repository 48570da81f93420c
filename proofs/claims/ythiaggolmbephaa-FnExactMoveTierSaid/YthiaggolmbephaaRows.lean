/-
  No cell of these rows narrows 'for every input' (looked for: loops, veiled, ifaces, maps, wideKeys, modest, calm, conditions, laid).
  DERIVED. THE GIVEN ROWS OF THIS SEAT. 12 by the template 'for every input the law returns true; each argument reads behind the call as it read before'; 0 by the template 'total and deterministic' (their statements: YthiaggolmbephaaTotals.lean).
  GIVEN WITH THE SEED: the statements are not yours to turn. If you find one false, say at which input.
  Laid BY PROGRAM, IN A SANDBOX (cutbox-rows.mjs): the forced cells as the released guide's own fill.sh prints them over the translation b5f14d6f7d37808b… (all of the seat's roots in one cut). By AI agents, Wed Nov 11 2026. No macro, syntax, notation, axiom, sorry.
-/
import Derived.Test.YthiaggolmbephaaChecked
import GoSem.Claim
import GoSem.ClaimJoined
import GoSem.ClaimMapViews
import Derived.JoinedTies
import Derived.KernelRfl
namespace Go.Proofs.Ythiaggolmbephaa
/- THE CELL 'sum', in the pinned program and in every row, IS THE sha256 OF THE DUMP (.gsa) THAT YthiaggolmbephaaProg.lean LOADS. Nothing in Lean hashes anything: it is a label: what it is worth is what the hold of that sum in a sandbox is worth. -/
noncomputable def Try.pinned : Pinned := { name := "ythiaggolmbephaa", sum := "b5f14d6f7d37808bf1758d681ae2222b2250473c9a7729b18499b9950d3df87f", checked := Try.checked }
namespace Rows
def none {H : Type} : Left H := { results := [], args := [] }

/-- 'laws.FnExactCoveredFrames': WHATEVER THE INPUT: true; the input reads as it did. -/
def fnExactCoveredFramesSpec : ChangeSpec := { name := "fnExactCoveredFrames", fn := fun _ => fun
  | [d1, d2, d3] => { results := [.lit (.bool true)], args := [d1, d2, d3] }
  | _ => none }
def fnExactCoveredFramesRow : OpenClaim := { program := "ythiaggolmbephaa", sum := "b5f14d6f7d37808bf1758d681ae2222b2250473c9a7729b18499b9950d3df87f", func := "loop.example/g01008/laws.FnExactCoveredFrames", spec := "fnExactCoveredFrames", inPlace := ["internal/bytealg.IndexByteString"], apart := false }
def FnExactCoveredFramesSaid : Prop := fnExactCoveredFramesRow.holds Try.pinned (OpenSpec.ofChange fnExactCoveredFramesSpec)

/-- ITS FALSE NEIGHBOUR: 'it returns false'. Refute it at one input. -/
def fnExactCoveredFramesWrong : ChangeSpec := { name := "fnExactCoveredFrames", fn := fun _ => fun
  | [d1, d2, d3] => { results := [.lit (.bool false)], args := [d1, d2, d3] }
  | _ => none }
def FnExactCoveredFramesWrongFalsely : Prop := fnExactCoveredFramesRow.holds Try.pinned (OpenSpec.ofChange fnExactCoveredFramesWrong)

/-- 'laws.FnExactSameFrames': WHATEVER THE INPUT: true; the input reads as it did. -/
def fnExactSameFramesSpec : ChangeSpec := { name := "fnExactSameFrames", fn := fun _ => fun
  | [d1, d2, d3, d4] => { results := [.lit (.bool true)], args := [d1, d2, d3, d4] }
  | _ => none }
def fnExactSameFramesRow : OpenClaim := { program := "ythiaggolmbephaa", sum := "b5f14d6f7d37808bf1758d681ae2222b2250473c9a7729b18499b9950d3df87f", func := "loop.example/g01008/laws.FnExactSameFrames", spec := "fnExactSameFrames", inPlace := ["internal/bytealg.IndexByteString"], unfollowed := true, recurses := true, apart := false }
def FnExactSameFramesSaid : Prop := fnExactSameFramesRow.holds Try.pinned (OpenSpec.ofChange fnExactSameFramesSpec)

/-- ITS FALSE NEIGHBOUR: 'it returns false'. Refute it at one input. -/
def fnExactSameFramesWrong : ChangeSpec := { name := "fnExactSameFrames", fn := fun _ => fun
  | [d1, d2, d3, d4] => { results := [.lit (.bool false)], args := [d1, d2, d3, d4] }
  | _ => none }
def FnExactSameFramesWrongFalsely : Prop := fnExactSameFramesRow.holds Try.pinned (OpenSpec.ofChange fnExactSameFramesWrong)

/-- 'laws.FnExactMoveTier': WHATEVER THE INPUT: true; the input reads as it did. -/
def fnExactMoveTierSpec : ChangeSpec := { name := "fnExactMoveTier", fn := fun _ => fun
  | [d1, d2] => { results := [.lit (.bool true)], args := [d1, d2] }
  | _ => none }
def fnExactMoveTierRow : OpenClaim := { program := "ythiaggolmbephaa", sum := "b5f14d6f7d37808bf1758d681ae2222b2250473c9a7729b18499b9950d3df87f", func := "loop.example/g01008/laws.FnExactMoveTier", spec := "fnExactMoveTier", inPlace := ["internal/bytealg.IndexByteString"], apart := false }
def FnExactMoveTierSaid : Prop := fnExactMoveTierRow.holds Try.pinned (OpenSpec.ofChange fnExactMoveTierSpec)

/-- ITS FALSE NEIGHBOUR: 'it returns false'. Refute it at one input. -/
def fnExactMoveTierWrong : ChangeSpec := { name := "fnExactMoveTier", fn := fun _ => fun
  | [d1, d2] => { results := [.lit (.bool false)], args := [d1, d2] }
  | _ => none }
def FnExactMoveTierWrongFalsely : Prop := fnExactMoveTierRow.holds Try.pinned (OpenSpec.ofChange fnExactMoveTierWrong)

/-- 'laws.FnExactCutTier': WHATEVER THE INPUT: true; the input reads as it did. -/
def fnExactCutTierSpec : ChangeSpec := { name := "fnExactCutTier", fn := fun _ => fun
  | [d1, d2, d3] => { results := [.lit (.bool true)], args := [d1, d2, d3] }
  | _ => none }
def fnExactCutTierRow : OpenClaim := { program := "ythiaggolmbephaa", sum := "b5f14d6f7d37808bf1758d681ae2222b2250473c9a7729b18499b9950d3df87f", func := "loop.example/g01008/laws.FnExactCutTier", spec := "fnExactCutTier", inPlace := ["internal/bytealg.IndexByteString"], apart := false }
def FnExactCutTierSaid : Prop := fnExactCutTierRow.holds Try.pinned (OpenSpec.ofChange fnExactCutTierSpec)

/-- ITS FALSE NEIGHBOUR: 'it returns false'. Refute it at one input. -/
def fnExactCutTierWrong : ChangeSpec := { name := "fnExactCutTier", fn := fun _ => fun
  | [d1, d2, d3] => { results := [.lit (.bool false)], args := [d1, d2, d3] }
  | _ => none }
def FnExactCutTierWrongFalsely : Prop := fnExactCutTierRow.holds Try.pinned (OpenSpec.ofChange fnExactCutTierWrong)

/-- 'laws.FnExactFrameGlosses': WHATEVER THE INPUT: true; the input reads as it did. -/
def fnExactFrameGlossesSpec : ChangeSpec := { name := "fnExactFrameGlosses", fn := fun _ => fun
  | [d1, d2, d3] => { results := [.lit (.bool true)], args := [d1, d2, d3] }
  | _ => none }
def fnExactFrameGlossesRow : OpenClaim := { program := "ythiaggolmbephaa", sum := "b5f14d6f7d37808bf1758d681ae2222b2250473c9a7729b18499b9950d3df87f", func := "loop.example/g01008/laws.FnExactFrameGlosses", spec := "fnExactFrameGlosses", inPlace := ["internal/bytealg.IndexByteString"], unfollowed := true, recurses := true, apart := false }
def FnExactFrameGlossesSaid : Prop := fnExactFrameGlossesRow.holds Try.pinned (OpenSpec.ofChange fnExactFrameGlossesSpec)

/-- ITS FALSE NEIGHBOUR: 'it returns false'. Refute it at one input. -/
def fnExactFrameGlossesWrong : ChangeSpec := { name := "fnExactFrameGlosses", fn := fun _ => fun
  | [d1, d2, d3] => { results := [.lit (.bool false)], args := [d1, d2, d3] }
  | _ => none }
def FnExactFrameGlossesWrongFalsely : Prop := fnExactFrameGlossesRow.holds Try.pinned (OpenSpec.ofChange fnExactFrameGlossesWrong)

/-- 'laws.FnExactConflictsOf': WHATEVER THE INPUT: true; the input reads as it did. -/
def fnExactConflictsOfSpec : ChangeSpec := { name := "fnExactConflictsOf", fn := fun _ => fun
  | [d1, d2] => { results := [.lit (.bool true)], args := [d1, d2] }
  | _ => none }
def fnExactConflictsOfRow : OpenClaim := { program := "ythiaggolmbephaa", sum := "b5f14d6f7d37808bf1758d681ae2222b2250473c9a7729b18499b9950d3df87f", func := "loop.example/g01008/laws.FnExactConflictsOf", spec := "fnExactConflictsOf", inPlace := ["internal/bytealg.IndexByteString"], apart := false }
def FnExactConflictsOfSaid : Prop := fnExactConflictsOfRow.holds Try.pinned (OpenSpec.ofChange fnExactConflictsOfSpec)

/-- ITS FALSE NEIGHBOUR: 'it returns false'. Refute it at one input. -/
def fnExactConflictsOfWrong : ChangeSpec := { name := "fnExactConflictsOf", fn := fun _ => fun
  | [d1, d2] => { results := [.lit (.bool false)], args := [d1, d2] }
  | _ => none }
def FnExactConflictsOfWrongFalsely : Prop := fnExactConflictsOfRow.holds Try.pinned (OpenSpec.ofChange fnExactConflictsOfWrong)

/-- 'laws.FnExactMatchedNotes': WHATEVER THE INPUT: true; the input reads as it did. -/
def fnExactMatchedNotesSpec : ChangeSpec := { name := "fnExactMatchedNotes", fn := fun _ => fun
  | [d1, d2, d3] => { results := [.lit (.bool true)], args := [d1, d2, d3] }
  | _ => none }
def fnExactMatchedNotesRow : OpenClaim := { program := "ythiaggolmbephaa", sum := "b5f14d6f7d37808bf1758d681ae2222b2250473c9a7729b18499b9950d3df87f", func := "loop.example/g01008/laws.FnExactMatchedNotes", spec := "fnExactMatchedNotes", inPlace := ["internal/bytealg.IndexByteString"], apart := false }
def FnExactMatchedNotesSaid : Prop := fnExactMatchedNotesRow.holds Try.pinned (OpenSpec.ofChange fnExactMatchedNotesSpec)

/-- ITS FALSE NEIGHBOUR: 'it returns false'. Refute it at one input. -/
def fnExactMatchedNotesWrong : ChangeSpec := { name := "fnExactMatchedNotes", fn := fun _ => fun
  | [d1, d2, d3] => { results := [.lit (.bool false)], args := [d1, d2, d3] }
  | _ => none }
def FnExactMatchedNotesWrongFalsely : Prop := fnExactMatchedNotesRow.holds Try.pinned (OpenSpec.ofChange fnExactMatchedNotesWrong)

/-- 'laws.FnExactNoteAgreement': WHATEVER THE INPUT: true; the input reads as it did. -/
def fnExactNoteAgreementSpec : ChangeSpec := { name := "fnExactNoteAgreement", fn := fun _ => fun
  | [d1, d2, d3] => { results := [.lit (.bool true)], args := [d1, d2, d3] }
  | _ => none }
def fnExactNoteAgreementRow : OpenClaim := { program := "ythiaggolmbephaa", sum := "b5f14d6f7d37808bf1758d681ae2222b2250473c9a7729b18499b9950d3df87f", func := "loop.example/g01008/laws.FnExactNoteAgreement", spec := "fnExactNoteAgreement", inPlace := ["internal/bytealg.IndexByteString"], apart := false }
def FnExactNoteAgreementSaid : Prop := fnExactNoteAgreementRow.holds Try.pinned (OpenSpec.ofChange fnExactNoteAgreementSpec)

/-- ITS FALSE NEIGHBOUR: 'it returns false'. Refute it at one input. -/
def fnExactNoteAgreementWrong : ChangeSpec := { name := "fnExactNoteAgreement", fn := fun _ => fun
  | [d1, d2, d3] => { results := [.lit (.bool false)], args := [d1, d2, d3] }
  | _ => none }
def FnExactNoteAgreementWrongFalsely : Prop := fnExactNoteAgreementRow.holds Try.pinned (OpenSpec.ofChange fnExactNoteAgreementWrong)

/-- 'laws.FnExactDisagreedSpans': WHATEVER THE INPUT: true; the input reads as it did. -/
def fnExactDisagreedSpansSpec : ChangeSpec := { name := "fnExactDisagreedSpans", fn := fun _ => fun
  | [d1, d2, d3, d4] => { results := [.lit (.bool true)], args := [d1, d2, d3, d4] }
  | _ => none }
def fnExactDisagreedSpansRow : OpenClaim := { program := "ythiaggolmbephaa", sum := "b5f14d6f7d37808bf1758d681ae2222b2250473c9a7729b18499b9950d3df87f", func := "loop.example/g01008/laws.FnExactDisagreedSpans", spec := "fnExactDisagreedSpans", inPlace := ["internal/bytealg.IndexByteString"], unfollowed := true, recurses := true, apart := false }
def FnExactDisagreedSpansSaid : Prop := fnExactDisagreedSpansRow.holds Try.pinned (OpenSpec.ofChange fnExactDisagreedSpansSpec)

/-- ITS FALSE NEIGHBOUR: 'it returns false'. Refute it at one input. -/
def fnExactDisagreedSpansWrong : ChangeSpec := { name := "fnExactDisagreedSpans", fn := fun _ => fun
  | [d1, d2, d3, d4] => { results := [.lit (.bool false)], args := [d1, d2, d3, d4] }
  | _ => none }
def FnExactDisagreedSpansWrongFalsely : Prop := fnExactDisagreedSpansRow.holds Try.pinned (OpenSpec.ofChange fnExactDisagreedSpansWrong)

/-- 'laws.FnExactGapsIn': WHATEVER THE INPUT: true; the input reads as it did. -/
def fnExactGapsInSpec : ChangeSpec := { name := "fnExactGapsIn", fn := fun _ => fun
  | [d1, d2, d3] => { results := [.lit (.bool true)], args := [d1, d2, d3] }
  | _ => none }
def fnExactGapsInRow : OpenClaim := { program := "ythiaggolmbephaa", sum := "b5f14d6f7d37808bf1758d681ae2222b2250473c9a7729b18499b9950d3df87f", func := "loop.example/g01008/laws.FnExactGapsIn", spec := "fnExactGapsIn", inPlace := ["internal/bytealg.IndexByteString"], apart := false }
def FnExactGapsInSaid : Prop := fnExactGapsInRow.holds Try.pinned (OpenSpec.ofChange fnExactGapsInSpec)

/-- ITS FALSE NEIGHBOUR: 'it returns false'. Refute it at one input. -/
def fnExactGapsInWrong : ChangeSpec := { name := "fnExactGapsIn", fn := fun _ => fun
  | [d1, d2, d3] => { results := [.lit (.bool false)], args := [d1, d2, d3] }
  | _ => none }
def FnExactGapsInWrongFalsely : Prop := fnExactGapsInRow.holds Try.pinned (OpenSpec.ofChange fnExactGapsInWrong)

/-- 'laws.FnExactClashesOf': WHATEVER THE INPUT: true; the input reads as it did. -/
def fnExactClashesOfSpec : ChangeSpec := { name := "fnExactClashesOf", fn := fun _ => fun
  | [d] => { results := [.lit (.bool true)], args := [d] }
  | _ => none }
def fnExactClashesOfRow : OpenClaim := { program := "ythiaggolmbephaa", sum := "b5f14d6f7d37808bf1758d681ae2222b2250473c9a7729b18499b9950d3df87f", func := "loop.example/g01008/laws.FnExactClashesOf", spec := "fnExactClashesOf", inPlace := ["internal/bytealg.IndexByteString"], apart := false }
def FnExactClashesOfSaid : Prop := fnExactClashesOfRow.holds Try.pinned (OpenSpec.ofChange fnExactClashesOfSpec)

/-- ITS FALSE NEIGHBOUR: 'it returns false'. Refute it at one input. -/
def fnExactClashesOfWrong : ChangeSpec := { name := "fnExactClashesOf", fn := fun _ => fun
  | [d] => { results := [.lit (.bool false)], args := [d] }
  | _ => none }
def FnExactClashesOfWrongFalsely : Prop := fnExactClashesOfRow.holds Try.pinned (OpenSpec.ofChange fnExactClashesOfWrong)

/-- 'laws.FnExactNewName': WHATEVER THE INPUT: true; the input reads as it did. -/
def fnExactNewNameSpec : ChangeSpec := { name := "fnExactNewName", fn := fun _ => fun
  | [d1, d2, d3, d4] => { results := [.lit (.bool true)], args := [d1, d2, d3, d4] }
  | _ => none }
def fnExactNewNameRow : OpenClaim := { program := "ythiaggolmbephaa", sum := "b5f14d6f7d37808bf1758d681ae2222b2250473c9a7729b18499b9950d3df87f", func := "loop.example/g01008/laws.FnExactNewName", spec := "fnExactNewName", inPlace := ["internal/bytealg.IndexByteString"], unfollowed := true, recurses := true, apart := false }
def FnExactNewNameSaid : Prop := fnExactNewNameRow.holds Try.pinned (OpenSpec.ofChange fnExactNewNameSpec)

/-- ITS FALSE NEIGHBOUR: 'it returns false'. Refute it at one input. -/
def fnExactNewNameWrong : ChangeSpec := { name := "fnExactNewName", fn := fun _ => fun
  | [d1, d2, d3, d4] => { results := [.lit (.bool false)], args := [d1, d2, d3, d4] }
  | _ => none }
def FnExactNewNameWrongFalsely : Prop := fnExactNewNameRow.holds Try.pinned (OpenSpec.ofChange fnExactNewNameWrong)

/- THE SECOND FORM. 'bulk': how many values and letters a reading holds, each counted each time it is reached (what is shared counts as often as it is met; a slice's spare places count too). A statement '..UptoSaid' is the law's where the arguments, and the package variables that the reading takes, are together of bulk at most 1048576: NARROWER than '..Said'. Prove '..Said' where nothing that the law and all that it calls make is longer than what came in: it says more and counts as full. Else prove '..UptoSaid'. A law counts once. -/
mutual
def uptoBulk {H : Type} : DataW H → Nat
  | .lit (.string bytes) => bytes.length + 1
  | .lit _ => 1
  | .nil => 1
  | .ptr d => uptoBulk d + 1
  | .slice elems spare => uptoBulkAll elems + uptoBulkAll spare + 1
  | .agg parts => uptoBulkAll parts + 1
  | .iface _ d => uptoBulk d + 1
  | .map entries => uptoBulkEntries entries + 1
  | .held _ => 1
def uptoBulkAll {H : Type} : List (DataW H) → Nat
  | [] => 0
  | d :: r => uptoBulk d + uptoBulkAll r
def uptoBulkEntries {H : Type} : List (Lit × DataW H) → Nat
  | [] => 0
  | x :: r => uptoBulkEntry x + uptoBulkEntries r
def uptoBulkEntry {H : Type} : Lit × DataW H → Nat
  | (.string bytes, d) => bytes.length + uptoBulk d + 1
  | (_, d) => uptoBulk d + 1
 end
def uptoSmall : (H : Type) → List (DataW H) → Bool := fun _ ds => decide (uptoBulkAll ds ≤ 1048576)
def OpenSpec.upto (s : _root_.Go.ChangeSpec) : _root_.Go.OpenSpec := { _root_.Go.OpenSpec.ofChange s with cond := some uptoSmall }

/-- 'laws.FnExactCoveredFrames', WHERE WHAT IT READS IS OF BULK AT MOST 1048576: true; the input reads as it did. -/
def fnExactCoveredFramesUptoRow : OpenClaim := { program := "ythiaggolmbephaa", sum := "b5f14d6f7d37808bf1758d681ae2222b2250473c9a7729b18499b9950d3df87f", func := "loop.example/g01008/laws.FnExactCoveredFrames", spec := "fnExactCoveredFrames", inPlace := ["internal/bytealg.IndexByteString"], apart := false, narrowed := true }
def FnExactCoveredFramesUptoSaid : Prop := fnExactCoveredFramesUptoRow.holds Try.pinned (OpenSpec.upto fnExactCoveredFramesSpec)

/-- 'laws.FnExactSameFrames', WHERE WHAT IT READS IS OF BULK AT MOST 1048576: true; the input reads as it did. -/
def fnExactSameFramesUptoRow : OpenClaim := { program := "ythiaggolmbephaa", sum := "b5f14d6f7d37808bf1758d681ae2222b2250473c9a7729b18499b9950d3df87f", func := "loop.example/g01008/laws.FnExactSameFrames", spec := "fnExactSameFrames", inPlace := ["internal/bytealg.IndexByteString"], unfollowed := true, recurses := true, apart := false, narrowed := true }
def FnExactSameFramesUptoSaid : Prop := fnExactSameFramesUptoRow.holds Try.pinned (OpenSpec.upto fnExactSameFramesSpec)

/-- 'laws.FnExactMoveTier', WHERE WHAT IT READS IS OF BULK AT MOST 1048576: true; the input reads as it did. -/
def fnExactMoveTierUptoRow : OpenClaim := { program := "ythiaggolmbephaa", sum := "b5f14d6f7d37808bf1758d681ae2222b2250473c9a7729b18499b9950d3df87f", func := "loop.example/g01008/laws.FnExactMoveTier", spec := "fnExactMoveTier", inPlace := ["internal/bytealg.IndexByteString"], apart := false, narrowed := true }
def FnExactMoveTierUptoSaid : Prop := fnExactMoveTierUptoRow.holds Try.pinned (OpenSpec.upto fnExactMoveTierSpec)

/-- 'laws.FnExactCutTier', WHERE WHAT IT READS IS OF BULK AT MOST 1048576: true; the input reads as it did. -/
def fnExactCutTierUptoRow : OpenClaim := { program := "ythiaggolmbephaa", sum := "b5f14d6f7d37808bf1758d681ae2222b2250473c9a7729b18499b9950d3df87f", func := "loop.example/g01008/laws.FnExactCutTier", spec := "fnExactCutTier", inPlace := ["internal/bytealg.IndexByteString"], apart := false, narrowed := true }
def FnExactCutTierUptoSaid : Prop := fnExactCutTierUptoRow.holds Try.pinned (OpenSpec.upto fnExactCutTierSpec)

/-- 'laws.FnExactFrameGlosses', WHERE WHAT IT READS IS OF BULK AT MOST 1048576: true; the input reads as it did. -/
def fnExactFrameGlossesUptoRow : OpenClaim := { program := "ythiaggolmbephaa", sum := "b5f14d6f7d37808bf1758d681ae2222b2250473c9a7729b18499b9950d3df87f", func := "loop.example/g01008/laws.FnExactFrameGlosses", spec := "fnExactFrameGlosses", inPlace := ["internal/bytealg.IndexByteString"], unfollowed := true, recurses := true, apart := false, narrowed := true }
def FnExactFrameGlossesUptoSaid : Prop := fnExactFrameGlossesUptoRow.holds Try.pinned (OpenSpec.upto fnExactFrameGlossesSpec)

/-- 'laws.FnExactConflictsOf', WHERE WHAT IT READS IS OF BULK AT MOST 1048576: true; the input reads as it did. -/
def fnExactConflictsOfUptoRow : OpenClaim := { program := "ythiaggolmbephaa", sum := "b5f14d6f7d37808bf1758d681ae2222b2250473c9a7729b18499b9950d3df87f", func := "loop.example/g01008/laws.FnExactConflictsOf", spec := "fnExactConflictsOf", inPlace := ["internal/bytealg.IndexByteString"], apart := false, narrowed := true }
def FnExactConflictsOfUptoSaid : Prop := fnExactConflictsOfUptoRow.holds Try.pinned (OpenSpec.upto fnExactConflictsOfSpec)

/-- 'laws.FnExactMatchedNotes', WHERE WHAT IT READS IS OF BULK AT MOST 1048576: true; the input reads as it did. -/
def fnExactMatchedNotesUptoRow : OpenClaim := { program := "ythiaggolmbephaa", sum := "b5f14d6f7d37808bf1758d681ae2222b2250473c9a7729b18499b9950d3df87f", func := "loop.example/g01008/laws.FnExactMatchedNotes", spec := "fnExactMatchedNotes", inPlace := ["internal/bytealg.IndexByteString"], apart := false, narrowed := true }
def FnExactMatchedNotesUptoSaid : Prop := fnExactMatchedNotesUptoRow.holds Try.pinned (OpenSpec.upto fnExactMatchedNotesSpec)

/-- 'laws.FnExactNoteAgreement', WHERE WHAT IT READS IS OF BULK AT MOST 1048576: true; the input reads as it did. -/
def fnExactNoteAgreementUptoRow : OpenClaim := { program := "ythiaggolmbephaa", sum := "b5f14d6f7d37808bf1758d681ae2222b2250473c9a7729b18499b9950d3df87f", func := "loop.example/g01008/laws.FnExactNoteAgreement", spec := "fnExactNoteAgreement", inPlace := ["internal/bytealg.IndexByteString"], apart := false, narrowed := true }
def FnExactNoteAgreementUptoSaid : Prop := fnExactNoteAgreementUptoRow.holds Try.pinned (OpenSpec.upto fnExactNoteAgreementSpec)

/-- 'laws.FnExactDisagreedSpans', WHERE WHAT IT READS IS OF BULK AT MOST 1048576: true; the input reads as it did. -/
def fnExactDisagreedSpansUptoRow : OpenClaim := { program := "ythiaggolmbephaa", sum := "b5f14d6f7d37808bf1758d681ae2222b2250473c9a7729b18499b9950d3df87f", func := "loop.example/g01008/laws.FnExactDisagreedSpans", spec := "fnExactDisagreedSpans", inPlace := ["internal/bytealg.IndexByteString"], unfollowed := true, recurses := true, apart := false, narrowed := true }
def FnExactDisagreedSpansUptoSaid : Prop := fnExactDisagreedSpansUptoRow.holds Try.pinned (OpenSpec.upto fnExactDisagreedSpansSpec)

/-- 'laws.FnExactGapsIn', WHERE WHAT IT READS IS OF BULK AT MOST 1048576: true; the input reads as it did. -/
def fnExactGapsInUptoRow : OpenClaim := { program := "ythiaggolmbephaa", sum := "b5f14d6f7d37808bf1758d681ae2222b2250473c9a7729b18499b9950d3df87f", func := "loop.example/g01008/laws.FnExactGapsIn", spec := "fnExactGapsIn", inPlace := ["internal/bytealg.IndexByteString"], apart := false, narrowed := true }
def FnExactGapsInUptoSaid : Prop := fnExactGapsInUptoRow.holds Try.pinned (OpenSpec.upto fnExactGapsInSpec)

/-- 'laws.FnExactClashesOf', WHERE WHAT IT READS IS OF BULK AT MOST 1048576: true; the input reads as it did. -/
def fnExactClashesOfUptoRow : OpenClaim := { program := "ythiaggolmbephaa", sum := "b5f14d6f7d37808bf1758d681ae2222b2250473c9a7729b18499b9950d3df87f", func := "loop.example/g01008/laws.FnExactClashesOf", spec := "fnExactClashesOf", inPlace := ["internal/bytealg.IndexByteString"], apart := false, narrowed := true }
def FnExactClashesOfUptoSaid : Prop := fnExactClashesOfUptoRow.holds Try.pinned (OpenSpec.upto fnExactClashesOfSpec)

/-- 'laws.FnExactNewName', WHERE WHAT IT READS IS OF BULK AT MOST 1048576: true; the input reads as it did. -/
def fnExactNewNameUptoRow : OpenClaim := { program := "ythiaggolmbephaa", sum := "b5f14d6f7d37808bf1758d681ae2222b2250473c9a7729b18499b9950d3df87f", func := "loop.example/g01008/laws.FnExactNewName", spec := "fnExactNewName", inPlace := ["internal/bytealg.IndexByteString"], unfollowed := true, recurses := true, apart := false, narrowed := true }
def FnExactNewNameUptoSaid : Prop := fnExactNewNameUptoRow.holds Try.pinned (OpenSpec.upto fnExactNewNameSpec)

end Rows
end Go.Proofs.Ythiaggolmbephaa
