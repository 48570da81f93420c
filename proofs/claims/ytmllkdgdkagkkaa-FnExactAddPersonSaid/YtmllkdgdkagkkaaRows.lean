/-
  No cell of these rows narrows 'for every input' (looked for: loops, veiled, ifaces, maps, wideKeys, modest, calm, conditions, laid).
  DERIVED. THE GIVEN ROWS OF THIS SEAT. 12 by the template 'for every input the law returns true; each argument reads behind the call as it read before'; 0 by the template 'total and deterministic' (their statements: YtmllkdgdkagkkaaTotals.lean).
  GIVEN WITH THE SEED: the statements are not yours to turn. If you find one false, say at which input.
  Laid BY PROGRAM, IN A SANDBOX (cutbox-rows.mjs): the forced cells as the released guide's own fill.sh prints them over the translation 3ef817afd7368d40… (all of the seat's roots in one cut). By AI agents, Wed Nov 11 2026. No macro, syntax, notation, axiom, sorry.
-/
import Derived.Test.YtmllkdgdkagkkaaChecked
import GoSem.Claim
import GoSem.ClaimJoined
import GoSem.ClaimMapViews
import Derived.JoinedTies
import Derived.KernelRfl
namespace Go.Proofs.Ytmllkdgdkagkkaa
/- THE CELL 'sum', in the pinned program and in every row, IS THE sha256 OF THE DUMP (.gsa) THAT YtmllkdgdkagkkaaProg.lean LOADS. Nothing in Lean hashes anything: it is a label: what it is worth is what the hold of that sum in a sandbox is worth. -/
noncomputable def Try.pinned : Pinned := { name := "ytmllkdgdkagkkaa", sum := "3ef817afd7368d406913d05075498b3c9fa1acaea31437d0452151ea45a13a0b", checked := Try.checked }
namespace Rows
def none {H : Type} : Left H := { results := [], args := [] }

/-- 'laws.FnExactAgreementBeyond': WHATEVER THE INPUT: true; the input reads as it did. -/
def fnExactAgreementBeyondSpec : ChangeSpec := { name := "fnExactAgreementBeyond", fn := fun _ => fun
  | [d1, d2, d3, d4] => { results := [.lit (.bool true)], args := [d1, d2, d3, d4] }
  | _ => none }
def fnExactAgreementBeyondRow : OpenClaim := { program := "ytmllkdgdkagkkaa", sum := "3ef817afd7368d406913d05075498b3c9fa1acaea31437d0452151ea45a13a0b", func := "loop.example/g01008/laws.FnExactAgreementBeyond", spec := "fnExactAgreementBeyond", inPlace := ["internal/bytealg.IndexByteString"], unfollowed := true, recurses := true, apart := false }
def FnExactAgreementBeyondSaid : Prop := fnExactAgreementBeyondRow.holds Try.pinned (OpenSpec.ofChange fnExactAgreementBeyondSpec)

/-- ITS FALSE NEIGHBOUR: 'it returns false'. Refute it at one input. -/
def fnExactAgreementBeyondWrong : ChangeSpec := { name := "fnExactAgreementBeyond", fn := fun _ => fun
  | [d1, d2, d3, d4] => { results := [.lit (.bool false)], args := [d1, d2, d3, d4] }
  | _ => none }
def FnExactAgreementBeyondWrongFalsely : Prop := fnExactAgreementBeyondRow.holds Try.pinned (OpenSpec.ofChange fnExactAgreementBeyondWrong)

/-- 'laws.FnExactConflictsOf': WHATEVER THE INPUT: true; the input reads as it did. -/
def fnExactConflictsOfSpec : ChangeSpec := { name := "fnExactConflictsOf", fn := fun _ => fun
  | [d1, d2] => { results := [.lit (.bool true)], args := [d1, d2] }
  | _ => none }
def fnExactConflictsOfRow : OpenClaim := { program := "ytmllkdgdkagkkaa", sum := "3ef817afd7368d406913d05075498b3c9fa1acaea31437d0452151ea45a13a0b", func := "loop.example/g01008/laws.FnExactConflictsOf", spec := "fnExactConflictsOf", inPlace := ["internal/bytealg.IndexByteString"], apart := false }
def FnExactConflictsOfSaid : Prop := fnExactConflictsOfRow.holds Try.pinned (OpenSpec.ofChange fnExactConflictsOfSpec)

/-- ITS FALSE NEIGHBOUR: 'it returns false'. Refute it at one input. -/
def fnExactConflictsOfWrong : ChangeSpec := { name := "fnExactConflictsOf", fn := fun _ => fun
  | [d1, d2] => { results := [.lit (.bool false)], args := [d1, d2] }
  | _ => none }
def FnExactConflictsOfWrongFalsely : Prop := fnExactConflictsOfRow.holds Try.pinned (OpenSpec.ofChange fnExactConflictsOfWrong)

/-- 'laws.FnExactClashesOf': WHATEVER THE INPUT: true; the input reads as it did. -/
def fnExactClashesOfSpec : ChangeSpec := { name := "fnExactClashesOf", fn := fun _ => fun
  | [d] => { results := [.lit (.bool true)], args := [d] }
  | _ => none }
def fnExactClashesOfRow : OpenClaim := { program := "ytmllkdgdkagkkaa", sum := "3ef817afd7368d406913d05075498b3c9fa1acaea31437d0452151ea45a13a0b", func := "loop.example/g01008/laws.FnExactClashesOf", spec := "fnExactClashesOf", inPlace := ["internal/bytealg.IndexByteString"], apart := false }
def FnExactClashesOfSaid : Prop := fnExactClashesOfRow.holds Try.pinned (OpenSpec.ofChange fnExactClashesOfSpec)

/-- ITS FALSE NEIGHBOUR: 'it returns false'. Refute it at one input. -/
def fnExactClashesOfWrong : ChangeSpec := { name := "fnExactClashesOf", fn := fun _ => fun
  | [d] => { results := [.lit (.bool false)], args := [d] }
  | _ => none }
def FnExactClashesOfWrongFalsely : Prop := fnExactClashesOfRow.holds Try.pinned (OpenSpec.ofChange fnExactClashesOfWrong)

/-- 'laws.FnExactMatchedNotes': WHATEVER THE INPUT: true; the input reads as it did. -/
def fnExactMatchedNotesSpec : ChangeSpec := { name := "fnExactMatchedNotes", fn := fun _ => fun
  | [d1, d2, d3] => { results := [.lit (.bool true)], args := [d1, d2, d3] }
  | _ => none }
def fnExactMatchedNotesRow : OpenClaim := { program := "ytmllkdgdkagkkaa", sum := "3ef817afd7368d406913d05075498b3c9fa1acaea31437d0452151ea45a13a0b", func := "loop.example/g01008/laws.FnExactMatchedNotes", spec := "fnExactMatchedNotes", inPlace := ["internal/bytealg.IndexByteString"], apart := false }
def FnExactMatchedNotesSaid : Prop := fnExactMatchedNotesRow.holds Try.pinned (OpenSpec.ofChange fnExactMatchedNotesSpec)

/-- ITS FALSE NEIGHBOUR: 'it returns false'. Refute it at one input. -/
def fnExactMatchedNotesWrong : ChangeSpec := { name := "fnExactMatchedNotes", fn := fun _ => fun
  | [d1, d2, d3] => { results := [.lit (.bool false)], args := [d1, d2, d3] }
  | _ => none }
def FnExactMatchedNotesWrongFalsely : Prop := fnExactMatchedNotesRow.holds Try.pinned (OpenSpec.ofChange fnExactMatchedNotesWrong)

/-- 'laws.FnExactGapsIn': WHATEVER THE INPUT: true; the input reads as it did. -/
def fnExactGapsInSpec : ChangeSpec := { name := "fnExactGapsIn", fn := fun _ => fun
  | [d1, d2, d3] => { results := [.lit (.bool true)], args := [d1, d2, d3] }
  | _ => none }
def fnExactGapsInRow : OpenClaim := { program := "ytmllkdgdkagkkaa", sum := "3ef817afd7368d406913d05075498b3c9fa1acaea31437d0452151ea45a13a0b", func := "loop.example/g01008/laws.FnExactGapsIn", spec := "fnExactGapsIn", inPlace := ["internal/bytealg.IndexByteString"], apart := false }
def FnExactGapsInSaid : Prop := fnExactGapsInRow.holds Try.pinned (OpenSpec.ofChange fnExactGapsInSpec)

/-- ITS FALSE NEIGHBOUR: 'it returns false'. Refute it at one input. -/
def fnExactGapsInWrong : ChangeSpec := { name := "fnExactGapsIn", fn := fun _ => fun
  | [d1, d2, d3] => { results := [.lit (.bool false)], args := [d1, d2, d3] }
  | _ => none }
def FnExactGapsInWrongFalsely : Prop := fnExactGapsInRow.holds Try.pinned (OpenSpec.ofChange fnExactGapsInWrong)

/-- 'laws.FnExactSplitNote': WHATEVER THE INPUT: true; the input reads as it did. -/
def fnExactSplitNoteSpec : ChangeSpec := { name := "fnExactSplitNote", fn := fun _ => fun
  | [d1, d2, d3] => { results := [.lit (.bool true)], args := [d1, d2, d3] }
  | _ => none }
def fnExactSplitNoteRow : OpenClaim := { program := "ytmllkdgdkagkkaa", sum := "3ef817afd7368d406913d05075498b3c9fa1acaea31437d0452151ea45a13a0b", func := "loop.example/g01008/laws.FnExactSplitNote", spec := "fnExactSplitNote", inPlace := ["internal/bytealg.IndexByteString", "slices.overlaps[loop.example/g01008/impl.Note]"], apart := false }
def FnExactSplitNoteSaid : Prop := fnExactSplitNoteRow.holds Try.pinned (OpenSpec.ofChange fnExactSplitNoteSpec)

/-- ITS FALSE NEIGHBOUR: 'it returns false'. Refute it at one input. -/
def fnExactSplitNoteWrong : ChangeSpec := { name := "fnExactSplitNote", fn := fun _ => fun
  | [d1, d2, d3] => { results := [.lit (.bool false)], args := [d1, d2, d3] }
  | _ => none }
def FnExactSplitNoteWrongFalsely : Prop := fnExactSplitNoteRow.holds Try.pinned (OpenSpec.ofChange fnExactSplitNoteWrong)

/-- 'laws.FnExactMajorityTier': WHATEVER THE INPUT: true; the input reads as it did. -/
def fnExactMajorityTierSpec : ChangeSpec := { name := "fnExactMajorityTier", fn := fun _ => fun
  | [d1, d2, d3] => { results := [.lit (.bool true)], args := [d1, d2, d3] }
  | _ => none }
def fnExactMajorityTierRow : OpenClaim := { program := "ytmllkdgdkagkkaa", sum := "3ef817afd7368d406913d05075498b3c9fa1acaea31437d0452151ea45a13a0b", func := "loop.example/g01008/laws.FnExactMajorityTier", spec := "fnExactMajorityTier", inPlace := ["internal/bytealg.IndexByteString"], unfollowed := true, recurses := true, apart := false }
def FnExactMajorityTierSaid : Prop := fnExactMajorityTierRow.holds Try.pinned (OpenSpec.ofChange fnExactMajorityTierSpec)

/-- ITS FALSE NEIGHBOUR: 'it returns false'. Refute it at one input. -/
def fnExactMajorityTierWrong : ChangeSpec := { name := "fnExactMajorityTier", fn := fun _ => fun
  | [d1, d2, d3] => { results := [.lit (.bool false)], args := [d1, d2, d3] }
  | _ => none }
def FnExactMajorityTierWrongFalsely : Prop := fnExactMajorityTierRow.holds Try.pinned (OpenSpec.ofChange fnExactMajorityTierWrong)

/-- 'laws.FnExactAddNote': WHATEVER THE INPUT: true; the input reads as it did. -/
def fnExactAddNoteSpec : ChangeSpec := { name := "fnExactAddNote", fn := fun _ => fun
  | [d1, d2] => { results := [.lit (.bool true)], args := [d1, d2] }
  | _ => none }
def fnExactAddNoteRow : OpenClaim := { program := "ytmllkdgdkagkkaa", sum := "3ef817afd7368d406913d05075498b3c9fa1acaea31437d0452151ea45a13a0b", func := "loop.example/g01008/laws.FnExactAddNote", spec := "fnExactAddNote", inPlace := ["internal/bytealg.IndexByteString"], unfollowed := true, recurses := true, apart := false }
def FnExactAddNoteSaid : Prop := fnExactAddNoteRow.holds Try.pinned (OpenSpec.ofChange fnExactAddNoteSpec)

/-- ITS FALSE NEIGHBOUR: 'it returns false'. Refute it at one input. -/
def fnExactAddNoteWrong : ChangeSpec := { name := "fnExactAddNote", fn := fun _ => fun
  | [d1, d2] => { results := [.lit (.bool false)], args := [d1, d2] }
  | _ => none }
def FnExactAddNoteWrongFalsely : Prop := fnExactAddNoteRow.holds Try.pinned (OpenSpec.ofChange fnExactAddNoteWrong)

/-- 'laws.FnExactMergeFor': WHATEVER THE INPUT: true; the input reads as it did. -/
def fnExactMergeForSpec : ChangeSpec := { name := "fnExactMergeFor", fn := fun _ => fun
  | [d1, d2] => { results := [.lit (.bool true)], args := [d1, d2] }
  | _ => none }
def fnExactMergeForRow : OpenClaim := { program := "ytmllkdgdkagkkaa", sum := "3ef817afd7368d406913d05075498b3c9fa1acaea31437d0452151ea45a13a0b", func := "loop.example/g01008/laws.FnExactMergeFor", spec := "fnExactMergeFor", inPlace := ["internal/bytealg.IndexByteString"], unfollowed := true, recurses := true, apart := false }
def FnExactMergeForSaid : Prop := fnExactMergeForRow.holds Try.pinned (OpenSpec.ofChange fnExactMergeForSpec)

/-- ITS FALSE NEIGHBOUR: 'it returns false'. Refute it at one input. -/
def fnExactMergeForWrong : ChangeSpec := { name := "fnExactMergeFor", fn := fun _ => fun
  | [d1, d2] => { results := [.lit (.bool false)], args := [d1, d2] }
  | _ => none }
def FnExactMergeForWrongFalsely : Prop := fnExactMergeForRow.holds Try.pinned (OpenSpec.ofChange fnExactMergeForWrong)

/-- 'laws.FnExactMergeTiers': WHATEVER THE INPUT: true; the input reads as it did. -/
def fnExactMergeTiersSpec : ChangeSpec := { name := "fnExactMergeTiers", fn := fun _ => fun
  | [d1, d2] => { results := [.lit (.bool true)], args := [d1, d2] }
  | _ => none }
def fnExactMergeTiersRow : OpenClaim := { program := "ytmllkdgdkagkkaa", sum := "3ef817afd7368d406913d05075498b3c9fa1acaea31437d0452151ea45a13a0b", func := "loop.example/g01008/laws.FnExactMergeTiers", spec := "fnExactMergeTiers", inPlace := ["internal/bytealg.IndexByteString"], unfollowed := true, recurses := true, apart := false }
def FnExactMergeTiersSaid : Prop := fnExactMergeTiersRow.holds Try.pinned (OpenSpec.ofChange fnExactMergeTiersSpec)

/-- ITS FALSE NEIGHBOUR: 'it returns false'. Refute it at one input. -/
def fnExactMergeTiersWrong : ChangeSpec := { name := "fnExactMergeTiers", fn := fun _ => fun
  | [d1, d2] => { results := [.lit (.bool false)], args := [d1, d2] }
  | _ => none }
def FnExactMergeTiersWrongFalsely : Prop := fnExactMergeTiersRow.holds Try.pinned (OpenSpec.ofChange fnExactMergeTiersWrong)

/-- 'laws.FnExactMergeOver': WHATEVER THE INPUT: true; the input reads as it did. -/
def fnExactMergeOverSpec : ChangeSpec := { name := "fnExactMergeOver", fn := fun _ => fun
  | [d1, d2, d3] => { results := [.lit (.bool true)], args := [d1, d2, d3] }
  | _ => none }
def fnExactMergeOverRow : OpenClaim := { program := "ytmllkdgdkagkkaa", sum := "3ef817afd7368d406913d05075498b3c9fa1acaea31437d0452151ea45a13a0b", func := "loop.example/g01008/laws.FnExactMergeOver", spec := "fnExactMergeOver", inPlace := ["internal/bytealg.IndexByteString"], unfollowed := true, recurses := true, apart := false }
def FnExactMergeOverSaid : Prop := fnExactMergeOverRow.holds Try.pinned (OpenSpec.ofChange fnExactMergeOverSpec)

/-- ITS FALSE NEIGHBOUR: 'it returns false'. Refute it at one input. -/
def fnExactMergeOverWrong : ChangeSpec := { name := "fnExactMergeOver", fn := fun _ => fun
  | [d1, d2, d3] => { results := [.lit (.bool false)], args := [d1, d2, d3] }
  | _ => none }
def FnExactMergeOverWrongFalsely : Prop := fnExactMergeOverRow.holds Try.pinned (OpenSpec.ofChange fnExactMergeOverWrong)

/-- 'laws.FnExactAddPerson': WHATEVER THE INPUT: true; the input reads as it did. -/
def fnExactAddPersonSpec : ChangeSpec := { name := "fnExactAddPerson", fn := fun _ => fun
  | [d1, d2] => { results := [.lit (.bool true)], args := [d1, d2] }
  | _ => none }
def fnExactAddPersonRow : OpenClaim := { program := "ytmllkdgdkagkkaa", sum := "3ef817afd7368d406913d05075498b3c9fa1acaea31437d0452151ea45a13a0b", func := "loop.example/g01008/laws.FnExactAddPerson", spec := "fnExactAddPerson", inPlace := ["internal/bytealg.IndexByteString", "internal/bytealg.abigen_runtime_cmpstring"], unfollowed := true, recurses := true, apart := false }
def FnExactAddPersonSaid : Prop := fnExactAddPersonRow.holds Try.pinned (OpenSpec.ofChange fnExactAddPersonSpec)

/-- ITS FALSE NEIGHBOUR: 'it returns false'. Refute it at one input. -/
def fnExactAddPersonWrong : ChangeSpec := { name := "fnExactAddPerson", fn := fun _ => fun
  | [d1, d2] => { results := [.lit (.bool false)], args := [d1, d2] }
  | _ => none }
def FnExactAddPersonWrongFalsely : Prop := fnExactAddPersonRow.holds Try.pinned (OpenSpec.ofChange fnExactAddPersonWrong)

/- THE SECOND FORM. 'bulk': how many values and letters a reading holds, each counted each time it is reached (what is shared counts as often as it is met; a slice's spare places count too). A statement '..UptoSaid' is the law's where the arguments, and the package variables that the reading takes, are together of bulk at most 1048576: NARROWER than '..Said'. Prove '..Said' where nothing that the law and all that it calls make is longer than what came in: it says more and counts as full. Else prove '..UptoSaid'. A law counts once. -/
mutual
def uptoBulk {H : Type} : DataW H → Nat
  | .lit (.string bytes) => bytes.length + 1
  | .lit _ => 1
  | .nil => 1
  | .ptr d => uptoBulk d + 1
  | .slice elems spare => uptoBulkAll elems + uptoBulkAll spare + 1
  | .agg parts => uptoBulkAll parts + 1
  | .iface _ d => uptoBulk d + 1
  | .map entries => uptoBulkEntries entries + 1
  | .held _ => 1
def uptoBulkAll {H : Type} : List (DataW H) → Nat
  | [] => 0
  | d :: r => uptoBulk d + uptoBulkAll r
def uptoBulkEntries {H : Type} : List (Lit × DataW H) → Nat
  | [] => 0
  | x :: r => uptoBulkEntry x + uptoBulkEntries r
def uptoBulkEntry {H : Type} : Lit × DataW H → Nat
  | (.string bytes, d) => bytes.length + uptoBulk d + 1
  | (_, d) => uptoBulk d + 1
 end
def uptoSmall : (H : Type) → List (DataW H) → Bool := fun _ ds => decide (uptoBulkAll ds ≤ 1048576)
def OpenSpec.upto (s : _root_.Go.ChangeSpec) : _root_.Go.OpenSpec := { _root_.Go.OpenSpec.ofChange s with cond := some uptoSmall }

/-- 'laws.FnExactAgreementBeyond', WHERE WHAT IT READS IS OF BULK AT MOST 1048576: true; the input reads as it did. -/
def fnExactAgreementBeyondUptoRow : OpenClaim := { program := "ytmllkdgdkagkkaa", sum := "3ef817afd7368d406913d05075498b3c9fa1acaea31437d0452151ea45a13a0b", func := "loop.example/g01008/laws.FnExactAgreementBeyond", spec := "fnExactAgreementBeyond", inPlace := ["internal/bytealg.IndexByteString"], unfollowed := true, recurses := true, apart := false, narrowed := true }
def FnExactAgreementBeyondUptoSaid : Prop := fnExactAgreementBeyondUptoRow.holds Try.pinned (OpenSpec.upto fnExactAgreementBeyondSpec)

/-- 'laws.FnExactConflictsOf', WHERE WHAT IT READS IS OF BULK AT MOST 1048576: true; the input reads as it did. -/
def fnExactConflictsOfUptoRow : OpenClaim := { program := "ytmllkdgdkagkkaa", sum := "3ef817afd7368d406913d05075498b3c9fa1acaea31437d0452151ea45a13a0b", func := "loop.example/g01008/laws.FnExactConflictsOf", spec := "fnExactConflictsOf", inPlace := ["internal/bytealg.IndexByteString"], apart := false, narrowed := true }
def FnExactConflictsOfUptoSaid : Prop := fnExactConflictsOfUptoRow.holds Try.pinned (OpenSpec.upto fnExactConflictsOfSpec)

/-- 'laws.FnExactClashesOf', WHERE WHAT IT READS IS OF BULK AT MOST 1048576: true; the input reads as it did. -/
def fnExactClashesOfUptoRow : OpenClaim := { program := "ytmllkdgdkagkkaa", sum := "3ef817afd7368d406913d05075498b3c9fa1acaea31437d0452151ea45a13a0b", func := "loop.example/g01008/laws.FnExactClashesOf", spec := "fnExactClashesOf", inPlace := ["internal/bytealg.IndexByteString"], apart := false, narrowed := true }
def FnExactClashesOfUptoSaid : Prop := fnExactClashesOfUptoRow.holds Try.pinned (OpenSpec.upto fnExactClashesOfSpec)

/-- 'laws.FnExactMatchedNotes', WHERE WHAT IT READS IS OF BULK AT MOST 1048576: true; the input reads as it did. -/
def fnExactMatchedNotesUptoRow : OpenClaim := { program := "ytmllkdgdkagkkaa", sum := "3ef817afd7368d406913d05075498b3c9fa1acaea31437d0452151ea45a13a0b", func := "loop.example/g01008/laws.FnExactMatchedNotes", spec := "fnExactMatchedNotes", inPlace := ["internal/bytealg.IndexByteString"], apart := false, narrowed := true }
def FnExactMatchedNotesUptoSaid : Prop := fnExactMatchedNotesUptoRow.holds Try.pinned (OpenSpec.upto fnExactMatchedNotesSpec)

/-- 'laws.FnExactGapsIn', WHERE WHAT IT READS IS OF BULK AT MOST 1048576: true; the input reads as it did. -/
def fnExactGapsInUptoRow : OpenClaim := { program := "ytmllkdgdkagkkaa", sum := "3ef817afd7368d406913d05075498b3c9fa1acaea31437d0452151ea45a13a0b", func := "loop.example/g01008/laws.FnExactGapsIn", spec := "fnExactGapsIn", inPlace := ["internal/bytealg.IndexByteString"], apart := false, narrowed := true }
def FnExactGapsInUptoSaid : Prop := fnExactGapsInUptoRow.holds Try.pinned (OpenSpec.upto fnExactGapsInSpec)

/-- 'laws.FnExactSplitNote', WHERE WHAT IT READS IS OF BULK AT MOST 1048576: true; the input reads as it did. -/
def fnExactSplitNoteUptoRow : OpenClaim := { program := "ytmllkdgdkagkkaa", sum := "3ef817afd7368d406913d05075498b3c9fa1acaea31437d0452151ea45a13a0b", func := "loop.example/g01008/laws.FnExactSplitNote", spec := "fnExactSplitNote", inPlace := ["internal/bytealg.IndexByteString", "slices.overlaps[loop.example/g01008/impl.Note]"], apart := false, narrowed := true }
def FnExactSplitNoteUptoSaid : Prop := fnExactSplitNoteUptoRow.holds Try.pinned (OpenSpec.upto fnExactSplitNoteSpec)

/-- 'laws.FnExactMajorityTier', WHERE WHAT IT READS IS OF BULK AT MOST 1048576: true; the input reads as it did. -/
def fnExactMajorityTierUptoRow : OpenClaim := { program := "ytmllkdgdkagkkaa", sum := "3ef817afd7368d406913d05075498b3c9fa1acaea31437d0452151ea45a13a0b", func := "loop.example/g01008/laws.FnExactMajorityTier", spec := "fnExactMajorityTier", inPlace := ["internal/bytealg.IndexByteString"], unfollowed := true, recurses := true, apart := false, narrowed := true }
def FnExactMajorityTierUptoSaid : Prop := fnExactMajorityTierUptoRow.holds Try.pinned (OpenSpec.upto fnExactMajorityTierSpec)

/-- 'laws.FnExactAddNote', WHERE WHAT IT READS IS OF BULK AT MOST 1048576: true; the input reads as it did. -/
def fnExactAddNoteUptoRow : OpenClaim := { program := "ytmllkdgdkagkkaa", sum := "3ef817afd7368d406913d05075498b3c9fa1acaea31437d0452151ea45a13a0b", func := "loop.example/g01008/laws.FnExactAddNote", spec := "fnExactAddNote", inPlace := ["internal/bytealg.IndexByteString"], unfollowed := true, recurses := true, apart := false, narrowed := true }
def FnExactAddNoteUptoSaid : Prop := fnExactAddNoteUptoRow.holds Try.pinned (OpenSpec.upto fnExactAddNoteSpec)

/-- 'laws.FnExactMergeFor', WHERE WHAT IT READS IS OF BULK AT MOST 1048576: true; the input reads as it did. -/
def fnExactMergeForUptoRow : OpenClaim := { program := "ytmllkdgdkagkkaa", sum := "3ef817afd7368d406913d05075498b3c9fa1acaea31437d0452151ea45a13a0b", func := "loop.example/g01008/laws.FnExactMergeFor", spec := "fnExactMergeFor", inPlace := ["internal/bytealg.IndexByteString"], unfollowed := true, recurses := true, apart := false, narrowed := true }
def FnExactMergeForUptoSaid : Prop := fnExactMergeForUptoRow.holds Try.pinned (OpenSpec.upto fnExactMergeForSpec)

/-- 'laws.FnExactMergeTiers', WHERE WHAT IT READS IS OF BULK AT MOST 1048576: true; the input reads as it did. -/
def fnExactMergeTiersUptoRow : OpenClaim := { program := "ytmllkdgdkagkkaa", sum := "3ef817afd7368d406913d05075498b3c9fa1acaea31437d0452151ea45a13a0b", func := "loop.example/g01008/laws.FnExactMergeTiers", spec := "fnExactMergeTiers", inPlace := ["internal/bytealg.IndexByteString"], unfollowed := true, recurses := true, apart := false, narrowed := true }
def FnExactMergeTiersUptoSaid : Prop := fnExactMergeTiersUptoRow.holds Try.pinned (OpenSpec.upto fnExactMergeTiersSpec)

/-- 'laws.FnExactMergeOver', WHERE WHAT IT READS IS OF BULK AT MOST 1048576: true; the input reads as it did. -/
def fnExactMergeOverUptoRow : OpenClaim := { program := "ytmllkdgdkagkkaa", sum := "3ef817afd7368d406913d05075498b3c9fa1acaea31437d0452151ea45a13a0b", func := "loop.example/g01008/laws.FnExactMergeOver", spec := "fnExactMergeOver", inPlace := ["internal/bytealg.IndexByteString"], unfollowed := true, recurses := true, apart := false, narrowed := true }
def FnExactMergeOverUptoSaid : Prop := fnExactMergeOverUptoRow.holds Try.pinned (OpenSpec.upto fnExactMergeOverSpec)

/-- 'laws.FnExactAddPerson', WHERE WHAT IT READS IS OF BULK AT MOST 1048576: true; the input reads as it did. -/
def fnExactAddPersonUptoRow : OpenClaim := { program := "ytmllkdgdkagkkaa", sum := "3ef817afd7368d406913d05075498b3c9fa1acaea31437d0452151ea45a13a0b", func := "loop.example/g01008/laws.FnExactAddPerson", spec := "fnExactAddPerson", inPlace := ["internal/bytealg.IndexByteString", "internal/bytealg.abigen_runtime_cmpstring"], unfollowed := true, recurses := true, apart := false, narrowed := true }
def FnExactAddPersonUptoSaid : Prop := fnExactAddPersonUptoRow.holds Try.pinned (OpenSpec.upto fnExactAddPersonSpec)

end Rows
end Go.Proofs.Ytmllkdgdkagkkaa
