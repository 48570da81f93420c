/-
  No cell of these rows narrows 'for every input' (looked for: loops, veiled, ifaces, maps, wideKeys, modest, calm, conditions, laid).
  DERIVED. THE GIVEN ROWS OF THIS SEAT. 10 by the template 'for every input the law returns true; each argument reads behind the call as it read before'; 0 by the template 'total and deterministic' (their statements: YtgapcmmhbegdeaaTotals.lean).
  GIVEN WITH THE SEED: the statements are not yours to turn. If you find one false, say at which input.
  Laid BY PROGRAM, IN A SANDBOX (cutbox-rows.mjs): the forced cells as the released guide's own fill.sh prints them over the translation d62181c9ae5e5992… (all of the seat's roots in one cut). By AI agents, Wed Nov 11 2026. No macro, syntax, notation, axiom, sorry.
-/
import Derived.Test.YtgapcmmhbegdeaaChecked
import GoSem.Claim
import GoSem.ClaimJoined
import GoSem.ClaimMapViews
import Derived.JoinedTies
import Derived.KernelRfl
namespace Go.Proofs.Ytgapcmmhbegdeaa
/- THE CELL 'sum', in the pinned program and in every row, IS THE sha256 OF THE DUMP (.gsa) THAT YtgapcmmhbegdeaaProg.lean LOADS. Nothing in Lean hashes anything: it is a label: what it is worth is what the hold of that sum in a sandbox is worth. -/
noncomputable def Try.pinned : Pinned := { name := "ytgapcmmhbegdeaa", sum := "d62181c9ae5e59928d9f914b126bb192b32ff21d48631742dcb316c9928e1b9f", checked := Try.checked }
namespace Rows
def none {H : Type} : Left H := { results := [], args := [] }

/-- 'laws.FnExactBestAnnotator': WHATEVER THE INPUT: true; the input reads as it did. -/
def fnExactBestAnnotatorSpec : ChangeSpec := { name := "fnExactBestAnnotator", fn := fun _ => fun
  | [d1, d2, d3] => { results := [.lit (.bool true)], args := [d1, d2, d3] }
  | _ => none }
def fnExactBestAnnotatorRow : OpenClaim := { program := "ytgapcmmhbegdeaa", sum := "d62181c9ae5e59928d9f914b126bb192b32ff21d48631742dcb316c9928e1b9f", func := "loop.example/g01008/laws.FnExactBestAnnotator", spec := "fnExactBestAnnotator", inPlace := ["internal/bytealg.IndexByteString"], unfollowed := true, recurses := true, plainKeys := false, apart := false }
def FnExactBestAnnotatorSaid : Prop := fnExactBestAnnotatorRow.holds Try.pinned (OpenSpec.ofChange fnExactBestAnnotatorSpec)

/-- ITS FALSE NEIGHBOUR: 'it returns false'. Refute it at one input. -/
def fnExactBestAnnotatorWrong : ChangeSpec := { name := "fnExactBestAnnotator", fn := fun _ => fun
  | [d1, d2, d3] => { results := [.lit (.bool false)], args := [d1, d2, d3] }
  | _ => none }
def FnExactBestAnnotatorWrongFalsely : Prop := fnExactBestAnnotatorRow.holds Try.pinned (OpenSpec.ofChange fnExactBestAnnotatorWrong)

/-- 'laws.FnExactMajorityTier': WHATEVER THE INPUT: true; the input reads as it did. -/
def fnExactMajorityTierSpec : ChangeSpec := { name := "fnExactMajorityTier", fn := fun _ => fun
  | [d1, d2, d3] => { results := [.lit (.bool true)], args := [d1, d2, d3] }
  | _ => none }
def fnExactMajorityTierRow : OpenClaim := { program := "ytgapcmmhbegdeaa", sum := "d62181c9ae5e59928d9f914b126bb192b32ff21d48631742dcb316c9928e1b9f", func := "loop.example/g01008/laws.FnExactMajorityTier", spec := "fnExactMajorityTier", inPlace := ["internal/bytealg.IndexByteString"], unfollowed := true, recurses := true, plainKeys := false, apart := false }
def FnExactMajorityTierSaid : Prop := fnExactMajorityTierRow.holds Try.pinned (OpenSpec.ofChange fnExactMajorityTierSpec)

/-- ITS FALSE NEIGHBOUR: 'it returns false'. Refute it at one input. -/
def fnExactMajorityTierWrong : ChangeSpec := { name := "fnExactMajorityTier", fn := fun _ => fun
  | [d1, d2, d3] => { results := [.lit (.bool false)], args := [d1, d2, d3] }
  | _ => none }
def FnExactMajorityTierWrongFalsely : Prop := fnExactMajorityTierRow.holds Try.pinned (OpenSpec.ofChange fnExactMajorityTierWrong)

/-- 'laws.FnExactConfusedGlosses': WHATEVER THE INPUT: true; the input reads as it did. -/
def fnExactConfusedGlossesSpec : ChangeSpec := { name := "fnExactConfusedGlosses", fn := fun _ => fun
  | [d1, d2, d3, d4] => { results := [.lit (.bool true)], args := [d1, d2, d3, d4] }
  | _ => none }
def fnExactConfusedGlossesRow : OpenClaim := { program := "ytgapcmmhbegdeaa", sum := "d62181c9ae5e59928d9f914b126bb192b32ff21d48631742dcb316c9928e1b9f", func := "loop.example/g01008/laws.FnExactConfusedGlosses", spec := "fnExactConfusedGlosses", inPlace := ["internal/bytealg.IndexByteString"], unfollowed := true, recurses := true, plainKeys := false, apart := false }
def FnExactConfusedGlossesSaid : Prop := fnExactConfusedGlossesRow.holds Try.pinned (OpenSpec.ofChange fnExactConfusedGlossesSpec)

/-- ITS FALSE NEIGHBOUR: 'it returns false'. Refute it at one input. -/
def fnExactConfusedGlossesWrong : ChangeSpec := { name := "fnExactConfusedGlosses", fn := fun _ => fun
  | [d1, d2, d3, d4] => { results := [.lit (.bool false)], args := [d1, d2, d3, d4] }
  | _ => none }
def FnExactConfusedGlossesWrongFalsely : Prop := fnExactConfusedGlossesRow.holds Try.pinned (OpenSpec.ofChange fnExactConfusedGlossesWrong)

/-- 'laws.FnExactIsNetwork': WHATEVER THE INPUT: true; the input reads as it did. -/
def fnExactIsNetworkSpec : ChangeSpec := { name := "fnExactIsNetwork", fn := fun _ => fun
  | [d] => { results := [.lit (.bool true)], args := [d] }
  | _ => none }
def fnExactIsNetworkRow : OpenClaim := { program := "ytgapcmmhbegdeaa", sum := "d62181c9ae5e59928d9f914b126bb192b32ff21d48631742dcb316c9928e1b9f", func := "loop.example/g01008/laws.FnExactIsNetwork", spec := "fnExactIsNetwork", unfollowed := true, recurses := true, plainKeys := false, apart := false }
def FnExactIsNetworkSaid : Prop := fnExactIsNetworkRow.holds Try.pinned (OpenSpec.ofChange fnExactIsNetworkSpec)

/-- ITS FALSE NEIGHBOUR: 'it returns false'. Refute it at one input. -/
def fnExactIsNetworkWrong : ChangeSpec := { name := "fnExactIsNetwork", fn := fun _ => fun
  | [d] => { results := [.lit (.bool false)], args := [d] }
  | _ => none }
def FnExactIsNetworkWrongFalsely : Prop := fnExactIsNetworkRow.holds Try.pinned (OpenSpec.ofChange fnExactIsNetworkWrong)

/-- 'laws.FnTierEdits': WHATEVER THE INPUT: true; the input reads as it did. -/
def fnTierEditsSpec : ChangeSpec := { name := "fnTierEdits", fn := fun _ => fun
  | [d1, d2] => { results := [.lit (.bool true)], args := [d1, d2] }
  | _ => none }
def fnTierEditsRow : OpenClaim := { program := "ytgapcmmhbegdeaa", sum := "d62181c9ae5e59928d9f914b126bb192b32ff21d48631742dcb316c9928e1b9f", func := "loop.example/g01008/laws.FnTierEdits", spec := "fnTierEdits", inPlace := ["internal/bytealg.IndexByteString", "slices.overlaps[loop.example/g01008/impl.Note]"], unfollowed := true, recurses := true, plainKeys := false, apart := false }
def FnTierEditsSaid : Prop := fnTierEditsRow.holds Try.pinned (OpenSpec.ofChange fnTierEditsSpec)

/-- ITS FALSE NEIGHBOUR: 'it returns false'. Refute it at one input. -/
def fnTierEditsWrong : ChangeSpec := { name := "fnTierEdits", fn := fun _ => fun
  | [d1, d2] => { results := [.lit (.bool false)], args := [d1, d2] }
  | _ => none }
def FnTierEditsWrongFalsely : Prop := fnTierEditsRow.holds Try.pinned (OpenSpec.ofChange fnTierEditsWrong)

/-- 'laws.FnNames': WHATEVER THE INPUT: true; the input reads as it did. -/
def fnNamesSpec : ChangeSpec := { name := "fnNames", fn := fun _ => fun
  | [d1, d2] => { results := [.lit (.bool true)], args := [d1, d2] }
  | _ => none }
def fnNamesRow : OpenClaim := { program := "ytgapcmmhbegdeaa", sum := "d62181c9ae5e59928d9f914b126bb192b32ff21d48631742dcb316c9928e1b9f", func := "loop.example/g01008/laws.FnNames", spec := "fnNames", inPlace := ["internal/bytealg.IndexByteString"], unfollowed := true, recurses := true, plainKeys := false, apart := false }
def FnNamesSaid : Prop := fnNamesRow.holds Try.pinned (OpenSpec.ofChange fnNamesSpec)

/-- ITS FALSE NEIGHBOUR: 'it returns false'. Refute it at one input. -/
def fnNamesWrong : ChangeSpec := { name := "fnNames", fn := fun _ => fun
  | [d1, d2] => { results := [.lit (.bool false)], args := [d1, d2] }
  | _ => none }
def FnNamesWrongFalsely : Prop := fnNamesRow.holds Try.pinned (OpenSpec.ofChange fnNamesWrong)

/-- 'laws.FnAgreement': WHATEVER THE INPUT: true; the input reads as it did. -/
def fnAgreementSpec : ChangeSpec := { name := "fnAgreement", fn := fun _ => fun
  | [d1, d2] => { results := [.lit (.bool true)], args := [d1, d2] }
  | _ => none }
def fnAgreementRow : OpenClaim := { program := "ytgapcmmhbegdeaa", sum := "d62181c9ae5e59928d9f914b126bb192b32ff21d48631742dcb316c9928e1b9f", func := "loop.example/g01008/laws.FnAgreement", spec := "fnAgreement", inPlace := ["internal/bytealg.IndexByteString"], unfollowed := true, recurses := true, plainKeys := false, apart := false }
def FnAgreementSaid : Prop := fnAgreementRow.holds Try.pinned (OpenSpec.ofChange fnAgreementSpec)

/-- ITS FALSE NEIGHBOUR: 'it returns false'. Refute it at one input. -/
def fnAgreementWrong : ChangeSpec := { name := "fnAgreement", fn := fun _ => fun
  | [d1, d2] => { results := [.lit (.bool false)], args := [d1, d2] }
  | _ => none }
def FnAgreementWrongFalsely : Prop := fnAgreementRow.holds Try.pinned (OpenSpec.ofChange fnAgreementWrong)

/-- 'laws.FnAnnotators': WHATEVER THE INPUT: true; the input reads as it did. -/
def fnAnnotatorsSpec : ChangeSpec := { name := "fnAnnotators", fn := fun _ => fun
  | [d1, d2] => { results := [.lit (.bool true)], args := [d1, d2] }
  | _ => none }
def fnAnnotatorsRow : OpenClaim := { program := "ytgapcmmhbegdeaa", sum := "d62181c9ae5e59928d9f914b126bb192b32ff21d48631742dcb316c9928e1b9f", func := "loop.example/g01008/laws.FnAnnotators", spec := "fnAnnotators", inPlace := ["internal/bytealg.IndexByteString"], unfollowed := true, recurses := true, plainKeys := false, apart := false }
def FnAnnotatorsSaid : Prop := fnAnnotatorsRow.holds Try.pinned (OpenSpec.ofChange fnAnnotatorsSpec)

/-- ITS FALSE NEIGHBOUR: 'it returns false'. Refute it at one input. -/
def fnAnnotatorsWrong : ChangeSpec := { name := "fnAnnotators", fn := fun _ => fun
  | [d1, d2] => { results := [.lit (.bool false)], args := [d1, d2] }
  | _ => none }
def FnAnnotatorsWrongFalsely : Prop := fnAnnotatorsRow.holds Try.pinned (OpenSpec.ofChange fnAnnotatorsWrong)

/-- 'laws.FnMerges': WHATEVER THE INPUT: true; the input reads as it did. -/
def fnMergesSpec : ChangeSpec := { name := "fnMerges", fn := fun _ => fun
  | [d1, d2] => { results := [.lit (.bool true)], args := [d1, d2] }
  | _ => none }
def fnMergesRow : OpenClaim := { program := "ytgapcmmhbegdeaa", sum := "d62181c9ae5e59928d9f914b126bb192b32ff21d48631742dcb316c9928e1b9f", func := "loop.example/g01008/laws.FnMerges", spec := "fnMerges", inPlace := ["internal/bytealg.IndexByteString"], unfollowed := true, recurses := true, plainKeys := false, apart := false }
def FnMergesSaid : Prop := fnMergesRow.holds Try.pinned (OpenSpec.ofChange fnMergesSpec)

/-- ITS FALSE NEIGHBOUR: 'it returns false'. Refute it at one input. -/
def fnMergesWrong : ChangeSpec := { name := "fnMerges", fn := fun _ => fun
  | [d1, d2] => { results := [.lit (.bool false)], args := [d1, d2] }
  | _ => none }
def FnMergesWrongFalsely : Prop := fnMergesRow.holds Try.pinned (OpenSpec.ofChange fnMergesWrong)

/-- 'laws.FnTierPairs': WHATEVER THE INPUT: true; the input reads as it did. -/
def fnTierPairsSpec : ChangeSpec := { name := "fnTierPairs", fn := fun _ => fun
  | [d1, d2] => { results := [.lit (.bool true)], args := [d1, d2] }
  | _ => none }
def fnTierPairsRow : OpenClaim := { program := "ytgapcmmhbegdeaa", sum := "d62181c9ae5e59928d9f914b126bb192b32ff21d48631742dcb316c9928e1b9f", func := "loop.example/g01008/laws.FnTierPairs", spec := "fnTierPairs", inPlace := ["internal/bytealg.IndexByteString"], unfollowed := true, recurses := true, plainKeys := false, apart := false }
def FnTierPairsSaid : Prop := fnTierPairsRow.holds Try.pinned (OpenSpec.ofChange fnTierPairsSpec)

/-- ITS FALSE NEIGHBOUR: 'it returns false'. Refute it at one input. -/
def fnTierPairsWrong : ChangeSpec := { name := "fnTierPairs", fn := fun _ => fun
  | [d1, d2] => { results := [.lit (.bool false)], args := [d1, d2] }
  | _ => none }
def FnTierPairsWrongFalsely : Prop := fnTierPairsRow.holds Try.pinned (OpenSpec.ofChange fnTierPairsWrong)

/- THE SECOND FORM. 'bulk': how many values and letters a reading holds, each counted each time it is reached (what is shared counts as often as it is met; a slice's spare places count too). A statement '..UptoSaid' is the law's where the arguments, and the package variables that the reading takes, are together of bulk at most 1048576: NARROWER than '..Said'. Prove '..Said' where nothing that the law and all that it calls make is longer than what came in: it says more and counts as full. Else prove '..UptoSaid'. A law counts once. -/
mutual
def uptoBulk {H : Type} : DataW H → Nat
  | .lit (.string bytes) => bytes.length + 1
  | .lit _ => 1
  | .nil => 1
  | .ptr d => uptoBulk d + 1
  | .slice elems spare => uptoBulkAll elems + uptoBulkAll spare + 1
  | .agg parts => uptoBulkAll parts + 1
  | .iface _ d => uptoBulk d + 1
  | .map entries => uptoBulkEntries entries + 1
  | .held _ => 1
def uptoBulkAll {H : Type} : List (DataW H) → Nat
  | [] => 0
  | d :: r => uptoBulk d + uptoBulkAll r
def uptoBulkEntries {H : Type} : List (Lit × DataW H) → Nat
  | [] => 0
  | x :: r => uptoBulkEntry x + uptoBulkEntries r
def uptoBulkEntry {H : Type} : Lit × DataW H → Nat
  | (.string bytes, d) => bytes.length + uptoBulk d + 1
  | (_, d) => uptoBulk d + 1
 end
def uptoSmall : (H : Type) → List (DataW H) → Bool := fun _ ds => decide (uptoBulkAll ds ≤ 1048576)
def OpenSpec.upto (s : _root_.Go.ChangeSpec) : _root_.Go.OpenSpec := { _root_.Go.OpenSpec.ofChange s with cond := some uptoSmall }

/-- 'laws.FnExactBestAnnotator', WHERE WHAT IT READS IS OF BULK AT MOST 1048576: true; the input reads as it did. -/
def fnExactBestAnnotatorUptoRow : OpenClaim := { program := "ytgapcmmhbegdeaa", sum := "d62181c9ae5e59928d9f914b126bb192b32ff21d48631742dcb316c9928e1b9f", func := "loop.example/g01008/laws.FnExactBestAnnotator", spec := "fnExactBestAnnotator", inPlace := ["internal/bytealg.IndexByteString"], unfollowed := true, recurses := true, plainKeys := false, apart := false, narrowed := true }
def FnExactBestAnnotatorUptoSaid : Prop := fnExactBestAnnotatorUptoRow.holds Try.pinned (OpenSpec.upto fnExactBestAnnotatorSpec)

/-- 'laws.FnExactMajorityTier', WHERE WHAT IT READS IS OF BULK AT MOST 1048576: true; the input reads as it did. -/
def fnExactMajorityTierUptoRow : OpenClaim := { program := "ytgapcmmhbegdeaa", sum := "d62181c9ae5e59928d9f914b126bb192b32ff21d48631742dcb316c9928e1b9f", func := "loop.example/g01008/laws.FnExactMajorityTier", spec := "fnExactMajorityTier", inPlace := ["internal/bytealg.IndexByteString"], unfollowed := true, recurses := true, plainKeys := false, apart := false, narrowed := true }
def FnExactMajorityTierUptoSaid : Prop := fnExactMajorityTierUptoRow.holds Try.pinned (OpenSpec.upto fnExactMajorityTierSpec)

/-- 'laws.FnExactConfusedGlosses', WHERE WHAT IT READS IS OF BULK AT MOST 1048576: true; the input reads as it did. -/
def fnExactConfusedGlossesUptoRow : OpenClaim := { program := "ytgapcmmhbegdeaa", sum := "d62181c9ae5e59928d9f914b126bb192b32ff21d48631742dcb316c9928e1b9f", func := "loop.example/g01008/laws.FnExactConfusedGlosses", spec := "fnExactConfusedGlosses", inPlace := ["internal/bytealg.IndexByteString"], unfollowed := true, recurses := true, plainKeys := false, apart := false, narrowed := true }
def FnExactConfusedGlossesUptoSaid : Prop := fnExactConfusedGlossesUptoRow.holds Try.pinned (OpenSpec.upto fnExactConfusedGlossesSpec)

/-- 'laws.FnExactIsNetwork', WHERE WHAT IT READS IS OF BULK AT MOST 1048576: true; the input reads as it did. -/
def fnExactIsNetworkUptoRow : OpenClaim := { program := "ytgapcmmhbegdeaa", sum := "d62181c9ae5e59928d9f914b126bb192b32ff21d48631742dcb316c9928e1b9f", func := "loop.example/g01008/laws.FnExactIsNetwork", spec := "fnExactIsNetwork", unfollowed := true, recurses := true, plainKeys := false, apart := false, narrowed := true }
def FnExactIsNetworkUptoSaid : Prop := fnExactIsNetworkUptoRow.holds Try.pinned (OpenSpec.upto fnExactIsNetworkSpec)

/-- 'laws.FnTierEdits', WHERE WHAT IT READS IS OF BULK AT MOST 1048576: true; the input reads as it did. -/
def fnTierEditsUptoRow : OpenClaim := { program := "ytgapcmmhbegdeaa", sum := "d62181c9ae5e59928d9f914b126bb192b32ff21d48631742dcb316c9928e1b9f", func := "loop.example/g01008/laws.FnTierEdits", spec := "fnTierEdits", inPlace := ["internal/bytealg.IndexByteString", "slices.overlaps[loop.example/g01008/impl.Note]"], unfollowed := true, recurses := true, plainKeys := false, apart := false, narrowed := true }
def FnTierEditsUptoSaid : Prop := fnTierEditsUptoRow.holds Try.pinned (OpenSpec.upto fnTierEditsSpec)

/-- 'laws.FnNames', WHERE WHAT IT READS IS OF BULK AT MOST 1048576: true; the input reads as it did. -/
def fnNamesUptoRow : OpenClaim := { program := "ytgapcmmhbegdeaa", sum := "d62181c9ae5e59928d9f914b126bb192b32ff21d48631742dcb316c9928e1b9f", func := "loop.example/g01008/laws.FnNames", spec := "fnNames", inPlace := ["internal/bytealg.IndexByteString"], unfollowed := true, recurses := true, plainKeys := false, apart := false, narrowed := true }
def FnNamesUptoSaid : Prop := fnNamesUptoRow.holds Try.pinned (OpenSpec.upto fnNamesSpec)

/-- 'laws.FnAgreement', WHERE WHAT IT READS IS OF BULK AT MOST 1048576: true; the input reads as it did. -/
def fnAgreementUptoRow : OpenClaim := { program := "ytgapcmmhbegdeaa", sum := "d62181c9ae5e59928d9f914b126bb192b32ff21d48631742dcb316c9928e1b9f", func := "loop.example/g01008/laws.FnAgreement", spec := "fnAgreement", inPlace := ["internal/bytealg.IndexByteString"], unfollowed := true, recurses := true, plainKeys := false, apart := false, narrowed := true }
def FnAgreementUptoSaid : Prop := fnAgreementUptoRow.holds Try.pinned (OpenSpec.upto fnAgreementSpec)

/-- 'laws.FnAnnotators', WHERE WHAT IT READS IS OF BULK AT MOST 1048576: true; the input reads as it did. -/
def fnAnnotatorsUptoRow : OpenClaim := { program := "ytgapcmmhbegdeaa", sum := "d62181c9ae5e59928d9f914b126bb192b32ff21d48631742dcb316c9928e1b9f", func := "loop.example/g01008/laws.FnAnnotators", spec := "fnAnnotators", inPlace := ["internal/bytealg.IndexByteString"], unfollowed := true, recurses := true, plainKeys := false, apart := false, narrowed := true }
def FnAnnotatorsUptoSaid : Prop := fnAnnotatorsUptoRow.holds Try.pinned (OpenSpec.upto fnAnnotatorsSpec)

/-- 'laws.FnMerges', WHERE WHAT IT READS IS OF BULK AT MOST 1048576: true; the input reads as it did. -/
def fnMergesUptoRow : OpenClaim := { program := "ytgapcmmhbegdeaa", sum := "d62181c9ae5e59928d9f914b126bb192b32ff21d48631742dcb316c9928e1b9f", func := "loop.example/g01008/laws.FnMerges", spec := "fnMerges", inPlace := ["internal/bytealg.IndexByteString"], unfollowed := true, recurses := true, plainKeys := false, apart := false, narrowed := true }
def FnMergesUptoSaid : Prop := fnMergesUptoRow.holds Try.pinned (OpenSpec.upto fnMergesSpec)

/-- 'laws.FnTierPairs', WHERE WHAT IT READS IS OF BULK AT MOST 1048576: true; the input reads as it did. -/
def fnTierPairsUptoRow : OpenClaim := { program := "ytgapcmmhbegdeaa", sum := "d62181c9ae5e59928d9f914b126bb192b32ff21d48631742dcb316c9928e1b9f", func := "loop.example/g01008/laws.FnTierPairs", spec := "fnTierPairs", inPlace := ["internal/bytealg.IndexByteString"], unfollowed := true, recurses := true, plainKeys := false, apart := false, narrowed := true }
def FnTierPairsUptoSaid : Prop := fnTierPairsUptoRow.holds Try.pinned (OpenSpec.upto fnTierPairsSpec)

end Rows
end Go.Proofs.Ytgapcmmhbegdeaa
