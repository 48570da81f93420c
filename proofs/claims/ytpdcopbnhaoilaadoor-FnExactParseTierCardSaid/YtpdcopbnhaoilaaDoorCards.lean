/-
  DERIVED. GIVEN WITH THE SEED: THE CARDS: each row of YtpdcopbnhaoilaaDoorRows.lean that lists a variable, with what it lists TIED to the program's text (the seventh form; the later family's looks); each row that meets fmt, with fmt's text TOLD by the authors' own Lean function (tested against real Go, not proved from fmt's source: count such statements apart). THE CARD IS WHAT COUNTS. Prove the row's statement (the work); the ties are given (YtpdcopbnhaoilaaDoorTie.lean); close each card by the builder's one call (the guide's Derived/Test/ToyasCard.lean, 'card_holds'). Laid BY PROGRAM, IN A SANDBOX (cutbox-door.mjs). By AI agents, Wed Nov 11 2026. No macro, syntax, notation, axiom, sorry.
-/
import Derived.Test.YtpdcopbnhaoilaaDoorRows
import GoSem.ClaimSeven
namespace Go.Proofs.YtpdcopbnhaoilaaDoor
namespace Rows

/-- THE TIED CARD OF 'laws.FnPeople'. -/
def fnPeopleCard : Claim7 := { stood := { row := fnPeopleRow, standIns := [], harness := (true, "f5a881d710752237f0e4f64b38fcb27a7e880f0fa6434e98b69b3289d08ee888"), looks := true }, kinds := [], alts := [], laidByText := true, laidKinds := [.data, .data, .data], laidTests := true, laidLooks := .later }
def FnPeopleCardSaid : Prop := Claim7.holds Tryd.pinned (.plain (OpenSpec.ofChange fnPeopleSpec)) fnPeopleCard

/-- THE TIED CARD OF 'laws.FnExactParseTier'. -/
def fnExactParseTierCard : Claim7 := { stood := { row := fnExactParseTierRow, standIns := [], harness := (true, "f5a881d710752237f0e4f64b38fcb27a7e880f0fa6434e98b69b3289d08ee888"), looks := true }, kinds := [], alts := [], laidByText := true, laidKinds := [.data, .data, .data, .data, .sentinel, .sentinel, .pinned], laidTests := true, laidLooks := .later }
def FnExactParseTierCardSaid : Prop := Claim7.holds Tryd.pinned (.plain (OpenSpec.ofChange fnExactParseTierSpec)) fnExactParseTierCard

/-- THE TIED CARD OF 'laws.FnExactPeopleText'. -/
def fnExactPeopleTextCard : Claim7 := { stood := { row := fnExactPeopleTextRow, standIns := [], harness := (true, "f5a881d710752237f0e4f64b38fcb27a7e880f0fa6434e98b69b3289d08ee888"), looks := true }, kinds := [], alts := [], laidByText := true, laidKinds := [.data, .data, .data], laidTests := true, laidLooks := .later }
def FnExactPeopleTextCardSaid : Prop := Claim7.holds Tryd.pinned (.plain (OpenSpec.ofChange fnExactPeopleTextSpec)) fnExactPeopleTextCard

/-- THE TIED CARD OF 'laws.FnExactTierText'. -/
def fnExactTierTextCard : Claim7 := { stood := { row := fnExactTierTextRow, standIns := [], harness := (true, "f5a881d710752237f0e4f64b38fcb27a7e880f0fa6434e98b69b3289d08ee888"), looks := true }, kinds := [], alts := [], laidByText := true, laidKinds := [.data, .data, .data], laidTests := true, laidLooks := .later }
def FnExactTierTextCardSaid : Prop := Claim7.holds Tryd.pinned (.plain (OpenSpec.ofChange fnExactTierTextSpec)) fnExactTierTextCard

/-- THE SECOND FORM's CARD OF 'laws.FnPeople'. -/
def fnPeopleUptoCard : Claim7 := { stood := { row := fnPeopleUptoRow, standIns := [], harness := (true, "f5a881d710752237f0e4f64b38fcb27a7e880f0fa6434e98b69b3289d08ee888"), looks := true }, kinds := [], alts := [], laidByText := true, laidKinds := [.data, .data, .data], laidTests := true, laidLooks := .later }
def FnPeopleUptoCardSaid : Prop := Claim7.holds Tryd.pinned (.plain (OpenSpec.upto fnPeopleSpec)) fnPeopleUptoCard

/-- THE SECOND FORM's CARD OF 'laws.FnExactParseTier'. -/
def fnExactParseTierUptoCard : Claim7 := { stood := { row := fnExactParseTierUptoRow, standIns := [], harness := (true, "f5a881d710752237f0e4f64b38fcb27a7e880f0fa6434e98b69b3289d08ee888"), looks := true }, kinds := [], alts := [], laidByText := true, laidKinds := [.data, .data, .data, .data, .sentinel, .sentinel, .pinned], laidTests := true, laidLooks := .later }
def FnExactParseTierUptoCardSaid : Prop := Claim7.holds Tryd.pinned (.plain (OpenSpec.upto fnExactParseTierSpec)) fnExactParseTierUptoCard

/-- THE SECOND FORM's CARD OF 'laws.FnExactPeopleText'. -/
def fnExactPeopleTextUptoCard : Claim7 := { stood := { row := fnExactPeopleTextUptoRow, standIns := [], harness := (true, "f5a881d710752237f0e4f64b38fcb27a7e880f0fa6434e98b69b3289d08ee888"), looks := true }, kinds := [], alts := [], laidByText := true, laidKinds := [.data, .data, .data], laidTests := true, laidLooks := .later }
def FnExactPeopleTextUptoCardSaid : Prop := Claim7.holds Tryd.pinned (.plain (OpenSpec.upto fnExactPeopleTextSpec)) fnExactPeopleTextUptoCard

/-- THE SECOND FORM's CARD OF 'laws.FnExactTierText'. -/
def fnExactTierTextUptoCard : Claim7 := { stood := { row := fnExactTierTextUptoRow, standIns := [], harness := (true, "f5a881d710752237f0e4f64b38fcb27a7e880f0fa6434e98b69b3289d08ee888"), looks := true }, kinds := [], alts := [], laidByText := true, laidKinds := [.data, .data, .data], laidTests := true, laidLooks := .later }
def FnExactTierTextUptoCardSaid : Prop := Claim7.holds Tryd.pinned (.plain (OpenSpec.upto fnExactTierTextSpec)) fnExactTierTextUptoCard
end Rows
end Go.Proofs.YtpdcopbnhaoilaaDoor
