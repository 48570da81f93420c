/-
  DERIVED. GIVEN WITH THE SEED: THE CARDS: each row of YtglcpghappepaaaGreatDoorRows.lean that lists a variable, with what it lists TIED to the program's text (the seventh form; the later family's looks); each row that meets fmt, with fmt's text TOLD by the authors' own Lean function (tested against real Go, not proved from fmt's source: count such statements apart). THE CARD IS WHAT COUNTS. Prove the row's statement (the work); the ties are given (YtglcpghappepaaaGreatDoorTie.lean); close each card by the builder's one call (the guide's Derived/Test/ToyasCard.lean, 'card_holds'). Laid BY PROGRAM, IN A SANDBOX (cutbox-door.mjs). By AI agents, Wed Nov 11 2026. No macro, syntax, notation, axiom, sorry.
-/
import Derived.Test.YtglcpghappepaaaGreatDoorRows
import GoSem.ClaimSeven
namespace Go.Proofs.YtglcpghappepaaaGreatDoor
namespace Rows

/-- THE TIED CARD OF 'laws.FnTiers'. -/
def fnTiersCard : Claim7 := { stood := { row := fnTiersRow, standIns := [], harness := (true, "83ccfd88dfd1626fd6588cd77826a51c0fa0383be9210869b6f790b8e0808b52"), looks := true }, kinds := [], alts := [], laidByText := true, laidKinds := [.data, .data, .data, .data, .sentinel, .sentinel, .pinned], laidTests := true, laidLooks := .later }
def FnTiersCardSaid : Prop := Claim7.holds Tryz.pinned (.plain (OpenSpec.ofChange fnTiersSpec)) fnTiersCard

/-- THE SECOND FORM's CARD OF 'laws.FnTiers'. -/
def fnTiersUptoCard : Claim7 := { stood := { row := fnTiersUptoRow, standIns := [], harness := (true, "83ccfd88dfd1626fd6588cd77826a51c0fa0383be9210869b6f790b8e0808b52"), looks := true }, kinds := [], alts := [], laidByText := true, laidKinds := [.data, .data, .data, .data, .sentinel, .sentinel, .pinned], laidTests := true, laidLooks := .later }
def FnTiersUptoCardSaid : Prop := Claim7.holds Tryz.pinned (.plain (OpenSpec.upto fnTiersSpec)) fnTiersUptoCard
end Rows
end Go.Proofs.YtglcpghappepaaaGreatDoor
