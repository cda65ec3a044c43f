/-
  DERIVED. GIVEN WITH THE SEED: THE CARDS: each row of YtjkfgeigicljpaaGreatDoorRows.lean that lists a variable, with what it lists TIED to the program's text (the seventh form; the later family's looks); each row that meets fmt, with fmt's text TOLD by the authors' own Lean function (tested against real Go, not proved from fmt's source: count such statements apart). THE CARD IS WHAT COUNTS. Prove the row's statement (the work); the ties are given (YtjkfgeigicljpaaGreatDoorTie.lean); close each card by the builder's one call (the guide's Derived/Test/ToyasCard.lean, 'card_holds'). Laid BY PROGRAM, IN A SANDBOX (cutbox-door.mjs). By AI agents, Wed Nov 11 2026. No macro, syntax, notation, axiom, sorry.
-/
import Derived.Test.YtjkfgeigicljpaaGreatDoorRows
import GoSem.ClaimSeven
namespace Go.Proofs.YtjkfgeigicljpaaGreatDoor
namespace Rows

/-- THE TIED CARD OF 'laws.FnPagesNumbered'. -/
def fnPagesNumberedCard : Claim7 := { stood := { row := fnPagesNumberedRow, standIns := [], harness := (true, "ce1feeae3106da4d649d470532ea7943875dc3379903c1d4bcfda4760bf1cb83"), looks := true }, kinds := [], alts := [], laidByText := true, laidKinds := [.data, .data, .data, .data, .sentinel, .sentinel, .pinned], laidTests := true, laidLooks := .later }
def FnPagesNumberedCardSaid : Prop := Claim7.holds Tryz.pinned (.plain (OpenSpec.ofChange fnPagesNumberedSpec)) fnPagesNumberedCard

/-- THE SECOND FORM's CARD OF 'laws.FnPagesNumbered'. -/
def fnPagesNumberedUptoCard : Claim7 := { stood := { row := fnPagesNumberedUptoRow, standIns := [], harness := (true, "ce1feeae3106da4d649d470532ea7943875dc3379903c1d4bcfda4760bf1cb83"), looks := true }, kinds := [], alts := [], laidByText := true, laidKinds := [.data, .data, .data, .data, .sentinel, .sentinel, .pinned], laidTests := true, laidLooks := .later }
def FnPagesNumberedUptoCardSaid : Prop := Claim7.holds Tryz.pinned (.plain (OpenSpec.upto fnPagesNumberedSpec)) fnPagesNumberedUptoCard
end Rows
end Go.Proofs.YtjkfgeigicljpaaGreatDoor
