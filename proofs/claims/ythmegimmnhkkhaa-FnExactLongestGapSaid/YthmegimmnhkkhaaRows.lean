/-
  No cell of these rows narrows 'for every input' (looked for: loops, veiled, ifaces, maps, wideKeys, modest, calm, conditions, laid).
  DERIVED. THE GIVEN ROWS OF THIS SEAT. 11 by the template 'for every input the law returns true; each argument reads behind the call as it read before'; 0 by the template 'total and deterministic' (their statements: YthmegimmnhkkhaaTotals.lean).
  GIVEN WITH THE SEED: the statements are not yours to turn. If you find one false, say at which input.
  Laid BY PROGRAM, IN A SANDBOX (cutbox-rows.mjs): the forced cells as the released guide's own fill.sh prints them over the translation 84f7ba83bf3b333c… (all of the seat's roots in one cut). By AI agents, Wed Nov 11 2026. No macro, syntax, notation, axiom, sorry.
-/
import Derived.Test.YthmegimmnhkkhaaChecked
import GoSem.Claim
import GoSem.ClaimJoined
import GoSem.ClaimMapViews
import Derived.JoinedTies
import Derived.KernelRfl
namespace Go.Proofs.Ythmegimmnhkkhaa
/- THE CELL 'sum', in the pinned program and in every row, IS THE sha256 OF THE DUMP (.gsa) THAT YthmegimmnhkkhaaProg.lean LOADS. Nothing in Lean hashes anything: it is a label: what it is worth is what the hold of that sum in a sandbox is worth. -/
noncomputable def Try.pinned : Pinned := { name := "ythmegimmnhkkhaa", sum := "84f7ba83bf3b333c188aa7eb80faa0807308c56c8336e55d5024fd6869878023", checked := Try.checked }
namespace Rows
def none {H : Type} : Left H := { results := [], args := [] }

/-- 'laws.FnExactInverseRelation': WHATEVER THE INPUT: true; the input reads as it did. -/
def fnExactInverseRelationSpec : ChangeSpec := { name := "fnExactInverseRelation", fn := fun _ => fun
  | [d] => { results := [.lit (.bool true)], args := [d] }
  | _ => none }
def fnExactInverseRelationRow : OpenClaim := { program := "ythmegimmnhkkhaa", sum := "84f7ba83bf3b333c188aa7eb80faa0807308c56c8336e55d5024fd6869878023", func := "loop.example/g01008/laws.FnExactInverseRelation", spec := "fnExactInverseRelation", apart := false }
def FnExactInverseRelationSaid : Prop := fnExactInverseRelationRow.holds Try.pinned (OpenSpec.ofChange fnExactInverseRelationSpec)

/-- ITS FALSE NEIGHBOUR: 'it returns false'. Refute it at one input. -/
def fnExactInverseRelationWrong : ChangeSpec := { name := "fnExactInverseRelation", fn := fun _ => fun
  | [d] => { results := [.lit (.bool false)], args := [d] }
  | _ => none }
def FnExactInverseRelationWrongFalsely : Prop := fnExactInverseRelationRow.holds Try.pinned (OpenSpec.ofChange fnExactInverseRelationWrong)

/-- 'laws.FnExactIsSpan': WHATEVER THE INPUT: true; the input reads as it did. -/
def fnExactIsSpanSpec : ChangeSpec := { name := "fnExactIsSpan", fn := fun _ => fun
  | [d] => { results := [.lit (.bool true)], args := [d] }
  | _ => none }
def fnExactIsSpanRow : OpenClaim := { program := "ythmegimmnhkkhaa", sum := "84f7ba83bf3b333c188aa7eb80faa0807308c56c8336e55d5024fd6869878023", func := "loop.example/g01008/laws.FnExactIsSpan", spec := "fnExactIsSpan", apart := false }
def FnExactIsSpanSaid : Prop := fnExactIsSpanRow.holds Try.pinned (OpenSpec.ofChange fnExactIsSpanSpec)

/-- ITS FALSE NEIGHBOUR: 'it returns false'. Refute it at one input. -/
def fnExactIsSpanWrong : ChangeSpec := { name := "fnExactIsSpan", fn := fun _ => fun
  | [d] => { results := [.lit (.bool false)], args := [d] }
  | _ => none }
def FnExactIsSpanWrongFalsely : Prop := fnExactIsSpanRow.holds Try.pinned (OpenSpec.ofChange fnExactIsSpanWrong)

/-- 'laws.FnExactFramesBetween': WHATEVER THE INPUT: true; the input reads as it did. -/
def fnExactFramesBetweenSpec : ChangeSpec := { name := "fnExactFramesBetween", fn := fun _ => fun
  | [d1, d2] => { results := [.lit (.bool true)], args := [d1, d2] }
  | _ => none }
def fnExactFramesBetweenRow : OpenClaim := { program := "ythmegimmnhkkhaa", sum := "84f7ba83bf3b333c188aa7eb80faa0807308c56c8336e55d5024fd6869878023", func := "loop.example/g01008/laws.FnExactFramesBetween", spec := "fnExactFramesBetween", apart := false }
def FnExactFramesBetweenSaid : Prop := fnExactFramesBetweenRow.holds Try.pinned (OpenSpec.ofChange fnExactFramesBetweenSpec)

/-- ITS FALSE NEIGHBOUR: 'it returns false'. Refute it at one input. -/
def fnExactFramesBetweenWrong : ChangeSpec := { name := "fnExactFramesBetween", fn := fun _ => fun
  | [d1, d2] => { results := [.lit (.bool false)], args := [d1, d2] }
  | _ => none }
def FnExactFramesBetweenWrongFalsely : Prop := fnExactFramesBetweenRow.holds Try.pinned (OpenSpec.ofChange fnExactFramesBetweenWrong)

/-- 'laws.FnExactIsNote': WHATEVER THE INPUT: true; the input reads as it did. -/
def fnExactIsNoteSpec : ChangeSpec := { name := "fnExactIsNote", fn := fun _ => fun
  | [d] => { results := [.lit (.bool true)], args := [d] }
  | _ => none }
def fnExactIsNoteRow : OpenClaim := { program := "ythmegimmnhkkhaa", sum := "84f7ba83bf3b333c188aa7eb80faa0807308c56c8336e55d5024fd6869878023", func := "loop.example/g01008/laws.FnExactIsNote", spec := "fnExactIsNote", inPlace := ["internal/bytealg.IndexByteString"], apart := false }
def FnExactIsNoteSaid : Prop := fnExactIsNoteRow.holds Try.pinned (OpenSpec.ofChange fnExactIsNoteSpec)

/-- ITS FALSE NEIGHBOUR: 'it returns false'. Refute it at one input. -/
def fnExactIsNoteWrong : ChangeSpec := { name := "fnExactIsNote", fn := fun _ => fun
  | [d] => { results := [.lit (.bool false)], args := [d] }
  | _ => none }
def FnExactIsNoteWrongFalsely : Prop := fnExactIsNoteRow.holds Try.pinned (OpenSpec.ofChange fnExactIsNoteWrong)

/-- 'laws.FnExactCommonSpan': WHATEVER THE INPUT: true; the input reads as it did. -/
def fnExactCommonSpanSpec : ChangeSpec := { name := "fnExactCommonSpan", fn := fun _ => fun
  | [d1, d2] => { results := [.lit (.bool true)], args := [d1, d2] }
  | _ => none }
def fnExactCommonSpanRow : OpenClaim := { program := "ythmegimmnhkkhaa", sum := "84f7ba83bf3b333c188aa7eb80faa0807308c56c8336e55d5024fd6869878023", func := "loop.example/g01008/laws.FnExactCommonSpan", spec := "fnExactCommonSpan", apart := false }
def FnExactCommonSpanSaid : Prop := fnExactCommonSpanRow.holds Try.pinned (OpenSpec.ofChange fnExactCommonSpanSpec)

/-- ITS FALSE NEIGHBOUR: 'it returns false'. Refute it at one input. -/
def fnExactCommonSpanWrong : ChangeSpec := { name := "fnExactCommonSpan", fn := fun _ => fun
  | [d1, d2] => { results := [.lit (.bool false)], args := [d1, d2] }
  | _ => none }
def FnExactCommonSpanWrongFalsely : Prop := fnExactCommonSpanRow.holds Try.pinned (OpenSpec.ofChange fnExactCommonSpanWrong)

/-- 'laws.FnExactMatchesGloss': WHATEVER THE INPUT: true; the input reads as it did. -/
def fnExactMatchesGlossSpec : ChangeSpec := { name := "fnExactMatchesGloss", fn := fun _ => fun
  | [d1, d2] => { results := [.lit (.bool true)], args := [d1, d2] }
  | _ => none }
def fnExactMatchesGlossRow : OpenClaim := { program := "ythmegimmnhkkhaa", sum := "84f7ba83bf3b333c188aa7eb80faa0807308c56c8336e55d5024fd6869878023", func := "loop.example/g01008/laws.FnExactMatchesGloss", spec := "fnExactMatchesGloss", inPlace := ["internal/bytealg.IndexByteString"], recurses := true, apart := false }
def FnExactMatchesGlossSaid : Prop := fnExactMatchesGlossRow.holds Try.pinned (OpenSpec.ofChange fnExactMatchesGlossSpec)

/-- ITS FALSE NEIGHBOUR: 'it returns false'. Refute it at one input. -/
def fnExactMatchesGlossWrong : ChangeSpec := { name := "fnExactMatchesGloss", fn := fun _ => fun
  | [d1, d2] => { results := [.lit (.bool false)], args := [d1, d2] }
  | _ => none }
def FnExactMatchesGlossWrongFalsely : Prop := fnExactMatchesGlossRow.holds Try.pinned (OpenSpec.ofChange fnExactMatchesGlossWrong)

/-- 'laws.FnExactIsTier': WHATEVER THE INPUT: true; the input reads as it did. -/
def fnExactIsTierSpec : ChangeSpec := { name := "fnExactIsTier", fn := fun _ => fun
  | [d] => { results := [.lit (.bool true)], args := [d] }
  | _ => none }
def fnExactIsTierRow : OpenClaim := { program := "ythmegimmnhkkhaa", sum := "84f7ba83bf3b333c188aa7eb80faa0807308c56c8336e55d5024fd6869878023", func := "loop.example/g01008/laws.FnExactIsTier", spec := "fnExactIsTier", inPlace := ["internal/bytealg.IndexByteString"], apart := false }
def FnExactIsTierSaid : Prop := fnExactIsTierRow.holds Try.pinned (OpenSpec.ofChange fnExactIsTierSpec)

/-- ITS FALSE NEIGHBOUR: 'it returns false'. Refute it at one input. -/
def fnExactIsTierWrong : ChangeSpec := { name := "fnExactIsTier", fn := fun _ => fun
  | [d] => { results := [.lit (.bool false)], args := [d] }
  | _ => none }
def FnExactIsTierWrongFalsely : Prop := fnExactIsTierRow.holds Try.pinned (OpenSpec.ofChange fnExactIsTierWrong)

/-- 'laws.FnExactLongestGap': WHATEVER THE INPUT: true; the input reads as it did. -/
def fnExactLongestGapSpec : ChangeSpec := { name := "fnExactLongestGap", fn := fun _ => fun
  | [d] => { results := [.lit (.bool true)], args := [d] }
  | _ => none }
def fnExactLongestGapRow : OpenClaim := { program := "ythmegimmnhkkhaa", sum := "84f7ba83bf3b333c188aa7eb80faa0807308c56c8336e55d5024fd6869878023", func := "loop.example/g01008/laws.FnExactLongestGap", spec := "fnExactLongestGap", inPlace := ["internal/bytealg.IndexByteString"], unfollowed := true, recurses := true, apart := false }
def FnExactLongestGapSaid : Prop := fnExactLongestGapRow.holds Try.pinned (OpenSpec.ofChange fnExactLongestGapSpec)

/-- ITS FALSE NEIGHBOUR: 'it returns false'. Refute it at one input. -/
def fnExactLongestGapWrong : ChangeSpec := { name := "fnExactLongestGap", fn := fun _ => fun
  | [d] => { results := [.lit (.bool false)], args := [d] }
  | _ => none }
def FnExactLongestGapWrongFalsely : Prop := fnExactLongestGapRow.holds Try.pinned (OpenSpec.ofChange fnExactLongestGapWrong)

/-- 'laws.FnExactNoteAt': WHATEVER THE INPUT: true; the input reads as it did. -/
def fnExactNoteAtSpec : ChangeSpec := { name := "fnExactNoteAt", fn := fun _ => fun
  | [d1, d2] => { results := [.lit (.bool true)], args := [d1, d2] }
  | _ => none }
def fnExactNoteAtRow : OpenClaim := { program := "ythmegimmnhkkhaa", sum := "84f7ba83bf3b333c188aa7eb80faa0807308c56c8336e55d5024fd6869878023", func := "loop.example/g01008/laws.FnExactNoteAt", spec := "fnExactNoteAt", inPlace := ["internal/bytealg.IndexByteString"], unfollowed := true, recurses := true, apart := false }
def FnExactNoteAtSaid : Prop := fnExactNoteAtRow.holds Try.pinned (OpenSpec.ofChange fnExactNoteAtSpec)

/-- ITS FALSE NEIGHBOUR: 'it returns false'. Refute it at one input. -/
def fnExactNoteAtWrong : ChangeSpec := { name := "fnExactNoteAt", fn := fun _ => fun
  | [d1, d2] => { results := [.lit (.bool false)], args := [d1, d2] }
  | _ => none }
def FnExactNoteAtWrongFalsely : Prop := fnExactNoteAtRow.holds Try.pinned (OpenSpec.ofChange fnExactNoteAtWrong)

/-- 'laws.FnExactOldestFor': WHATEVER THE INPUT: true; the input reads as it did. -/
def fnExactOldestForSpec : ChangeSpec := { name := "fnExactOldestFor", fn := fun _ => fun
  | [d1, d2] => { results := [.lit (.bool true)], args := [d1, d2] }
  | _ => none }
def fnExactOldestForRow : OpenClaim := { program := "ythmegimmnhkkhaa", sum := "84f7ba83bf3b333c188aa7eb80faa0807308c56c8336e55d5024fd6869878023", func := "loop.example/g01008/laws.FnExactOldestFor", spec := "fnExactOldestFor", inPlace := ["internal/bytealg.IndexByteString"], apart := false }
def FnExactOldestForSaid : Prop := fnExactOldestForRow.holds Try.pinned (OpenSpec.ofChange fnExactOldestForSpec)

/-- ITS FALSE NEIGHBOUR: 'it returns false'. Refute it at one input. -/
def fnExactOldestForWrong : ChangeSpec := { name := "fnExactOldestFor", fn := fun _ => fun
  | [d1, d2] => { results := [.lit (.bool false)], args := [d1, d2] }
  | _ => none }
def FnExactOldestForWrongFalsely : Prop := fnExactOldestForRow.holds Try.pinned (OpenSpec.ofChange fnExactOldestForWrong)

/-- 'laws.FnExactGlossAt': WHATEVER THE INPUT: true; the input reads as it did. -/
def fnExactGlossAtSpec : ChangeSpec := { name := "fnExactGlossAt", fn := fun _ => fun
  | [d1, d2] => { results := [.lit (.bool true)], args := [d1, d2] }
  | _ => none }
def fnExactGlossAtRow : OpenClaim := { program := "ythmegimmnhkkhaa", sum := "84f7ba83bf3b333c188aa7eb80faa0807308c56c8336e55d5024fd6869878023", func := "loop.example/g01008/laws.FnExactGlossAt", spec := "fnExactGlossAt", inPlace := ["internal/bytealg.IndexByteString"], unfollowed := true, recurses := true, apart := false }
def FnExactGlossAtSaid : Prop := fnExactGlossAtRow.holds Try.pinned (OpenSpec.ofChange fnExactGlossAtSpec)

/-- ITS FALSE NEIGHBOUR: 'it returns false'. Refute it at one input. -/
def fnExactGlossAtWrong : ChangeSpec := { name := "fnExactGlossAt", fn := fun _ => fun
  | [d1, d2] => { results := [.lit (.bool false)], args := [d1, d2] }
  | _ => none }
def FnExactGlossAtWrongFalsely : Prop := fnExactGlossAtRow.holds Try.pinned (OpenSpec.ofChange fnExactGlossAtWrong)

/- THE SECOND FORM. 'bulk': how many values and letters a reading holds, each counted each time it is reached (what is shared counts as often as it is met; a slice's spare places count too). A statement '..UptoSaid' is the law's where the arguments, and the package variables that the reading takes, are together of bulk at most 1048576: NARROWER than '..Said'. Prove '..Said' where nothing that the law and all that it calls make is longer than what came in: it says more and counts as full. Else prove '..UptoSaid'. A law counts once. -/
mutual
def uptoBulk {H : Type} : DataW H → Nat
  | .lit (.string bytes) => bytes.length + 1
  | .lit _ => 1
  | .nil => 1
  | .ptr d => uptoBulk d + 1
  | .slice elems spare => uptoBulkAll elems + uptoBulkAll spare + 1
  | .agg parts => uptoBulkAll parts + 1
  | .iface _ d => uptoBulk d + 1
  | .map entries => uptoBulkEntries entries + 1
  | .held _ => 1
def uptoBulkAll {H : Type} : List (DataW H) → Nat
  | [] => 0
  | d :: r => uptoBulk d + uptoBulkAll r
def uptoBulkEntries {H : Type} : List (Lit × DataW H) → Nat
  | [] => 0
  | x :: r => uptoBulkEntry x + uptoBulkEntries r
def uptoBulkEntry {H : Type} : Lit × DataW H → Nat
  | (.string bytes, d) => bytes.length + uptoBulk d + 1
  | (_, d) => uptoBulk d + 1
 end
def uptoSmall : (H : Type) → List (DataW H) → Bool := fun _ ds => decide (uptoBulkAll ds ≤ 1048576)
def OpenSpec.upto (s : _root_.Go.ChangeSpec) : _root_.Go.OpenSpec := { _root_.Go.OpenSpec.ofChange s with cond := some uptoSmall }

/-- 'laws.FnExactInverseRelation', WHERE WHAT IT READS IS OF BULK AT MOST 1048576: true; the input reads as it did. -/
def fnExactInverseRelationUptoRow : OpenClaim := { program := "ythmegimmnhkkhaa", sum := "84f7ba83bf3b333c188aa7eb80faa0807308c56c8336e55d5024fd6869878023", func := "loop.example/g01008/laws.FnExactInverseRelation", spec := "fnExactInverseRelation", apart := false, narrowed := true }
def FnExactInverseRelationUptoSaid : Prop := fnExactInverseRelationUptoRow.holds Try.pinned (OpenSpec.upto fnExactInverseRelationSpec)

/-- 'laws.FnExactIsSpan', WHERE WHAT IT READS IS OF BULK AT MOST 1048576: true; the input reads as it did. -/
def fnExactIsSpanUptoRow : OpenClaim := { program := "ythmegimmnhkkhaa", sum := "84f7ba83bf3b333c188aa7eb80faa0807308c56c8336e55d5024fd6869878023", func := "loop.example/g01008/laws.FnExactIsSpan", spec := "fnExactIsSpan", apart := false, narrowed := true }
def FnExactIsSpanUptoSaid : Prop := fnExactIsSpanUptoRow.holds Try.pinned (OpenSpec.upto fnExactIsSpanSpec)

/-- 'laws.FnExactFramesBetween', WHERE WHAT IT READS IS OF BULK AT MOST 1048576: true; the input reads as it did. -/
def fnExactFramesBetweenUptoRow : OpenClaim := { program := "ythmegimmnhkkhaa", sum := "84f7ba83bf3b333c188aa7eb80faa0807308c56c8336e55d5024fd6869878023", func := "loop.example/g01008/laws.FnExactFramesBetween", spec := "fnExactFramesBetween", apart := false, narrowed := true }
def FnExactFramesBetweenUptoSaid : Prop := fnExactFramesBetweenUptoRow.holds Try.pinned (OpenSpec.upto fnExactFramesBetweenSpec)

/-- 'laws.FnExactIsNote', WHERE WHAT IT READS IS OF BULK AT MOST 1048576: true; the input reads as it did. -/
def fnExactIsNoteUptoRow : OpenClaim := { program := "ythmegimmnhkkhaa", sum := "84f7ba83bf3b333c188aa7eb80faa0807308c56c8336e55d5024fd6869878023", func := "loop.example/g01008/laws.FnExactIsNote", spec := "fnExactIsNote", inPlace := ["internal/bytealg.IndexByteString"], apart := false, narrowed := true }
def FnExactIsNoteUptoSaid : Prop := fnExactIsNoteUptoRow.holds Try.pinned (OpenSpec.upto fnExactIsNoteSpec)

/-- 'laws.FnExactCommonSpan', WHERE WHAT IT READS IS OF BULK AT MOST 1048576: true; the input reads as it did. -/
def fnExactCommonSpanUptoRow : OpenClaim := { program := "ythmegimmnhkkhaa", sum := "84f7ba83bf3b333c188aa7eb80faa0807308c56c8336e55d5024fd6869878023", func := "loop.example/g01008/laws.FnExactCommonSpan", spec := "fnExactCommonSpan", apart := false, narrowed := true }
def FnExactCommonSpanUptoSaid : Prop := fnExactCommonSpanUptoRow.holds Try.pinned (OpenSpec.upto fnExactCommonSpanSpec)

/-- 'laws.FnExactMatchesGloss', WHERE WHAT IT READS IS OF BULK AT MOST 1048576: true; the input reads as it did. -/
def fnExactMatchesGlossUptoRow : OpenClaim := { program := "ythmegimmnhkkhaa", sum := "84f7ba83bf3b333c188aa7eb80faa0807308c56c8336e55d5024fd6869878023", func := "loop.example/g01008/laws.FnExactMatchesGloss", spec := "fnExactMatchesGloss", inPlace := ["internal/bytealg.IndexByteString"], recurses := true, apart := false, narrowed := true }
def FnExactMatchesGlossUptoSaid : Prop := fnExactMatchesGlossUptoRow.holds Try.pinned (OpenSpec.upto fnExactMatchesGlossSpec)

/-- 'laws.FnExactIsTier', WHERE WHAT IT READS IS OF BULK AT MOST 1048576: true; the input reads as it did. -/
def fnExactIsTierUptoRow : OpenClaim := { program := "ythmegimmnhkkhaa", sum := "84f7ba83bf3b333c188aa7eb80faa0807308c56c8336e55d5024fd6869878023", func := "loop.example/g01008/laws.FnExactIsTier", spec := "fnExactIsTier", inPlace := ["internal/bytealg.IndexByteString"], apart := false, narrowed := true }
def FnExactIsTierUptoSaid : Prop := fnExactIsTierUptoRow.holds Try.pinned (OpenSpec.upto fnExactIsTierSpec)

/-- 'laws.FnExactLongestGap', WHERE WHAT IT READS IS OF BULK AT MOST 1048576: true; the input reads as it did. -/
def fnExactLongestGapUptoRow : OpenClaim := { program := "ythmegimmnhkkhaa", sum := "84f7ba83bf3b333c188aa7eb80faa0807308c56c8336e55d5024fd6869878023", func := "loop.example/g01008/laws.FnExactLongestGap", spec := "fnExactLongestGap", inPlace := ["internal/bytealg.IndexByteString"], unfollowed := true, recurses := true, apart := false, narrowed := true }
def FnExactLongestGapUptoSaid : Prop := fnExactLongestGapUptoRow.holds Try.pinned (OpenSpec.upto fnExactLongestGapSpec)

/-- 'laws.FnExactNoteAt', WHERE WHAT IT READS IS OF BULK AT MOST 1048576: true; the input reads as it did. -/
def fnExactNoteAtUptoRow : OpenClaim := { program := "ythmegimmnhkkhaa", sum := "84f7ba83bf3b333c188aa7eb80faa0807308c56c8336e55d5024fd6869878023", func := "loop.example/g01008/laws.FnExactNoteAt", spec := "fnExactNoteAt", inPlace := ["internal/bytealg.IndexByteString"], unfollowed := true, recurses := true, apart := false, narrowed := true }
def FnExactNoteAtUptoSaid : Prop := fnExactNoteAtUptoRow.holds Try.pinned (OpenSpec.upto fnExactNoteAtSpec)

/-- 'laws.FnExactOldestFor', WHERE WHAT IT READS IS OF BULK AT MOST 1048576: true; the input reads as it did. -/
def fnExactOldestForUptoRow : OpenClaim := { program := "ythmegimmnhkkhaa", sum := "84f7ba83bf3b333c188aa7eb80faa0807308c56c8336e55d5024fd6869878023", func := "loop.example/g01008/laws.FnExactOldestFor", spec := "fnExactOldestFor", inPlace := ["internal/bytealg.IndexByteString"], apart := false, narrowed := true }
def FnExactOldestForUptoSaid : Prop := fnExactOldestForUptoRow.holds Try.pinned (OpenSpec.upto fnExactOldestForSpec)

/-- 'laws.FnExactGlossAt', WHERE WHAT IT READS IS OF BULK AT MOST 1048576: true; the input reads as it did. -/
def fnExactGlossAtUptoRow : OpenClaim := { program := "ythmegimmnhkkhaa", sum := "84f7ba83bf3b333c188aa7eb80faa0807308c56c8336e55d5024fd6869878023", func := "loop.example/g01008/laws.FnExactGlossAt", spec := "fnExactGlossAt", inPlace := ["internal/bytealg.IndexByteString"], unfollowed := true, recurses := true, apart := false, narrowed := true }
def FnExactGlossAtUptoSaid : Prop := fnExactGlossAtUptoRow.holds Try.pinned (OpenSpec.upto fnExactGlossAtSpec)

end Rows
end Go.Proofs.Ythmegimmnhkkhaa
