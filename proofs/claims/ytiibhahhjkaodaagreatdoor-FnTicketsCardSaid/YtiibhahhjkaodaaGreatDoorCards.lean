/-
  DERIVED. GIVEN WITH THE SEED: THE CARDS: each row of YtiibhahhjkaodaaGreatDoorRows.lean that lists a variable, with what it lists TIED to the program's text (the seventh form; the later family's looks); each row that meets fmt, with fmt's text TOLD by the authors' own Lean function (tested against real Go, not proved from fmt's source: count such statements apart). THE CARD IS WHAT COUNTS. Prove the row's statement (the work); the ties are given (YtiibhahhjkaodaaGreatDoorTie.lean); close each card by the builder's one call (the guide's Derived/Test/ToyasCard.lean, 'card_holds'). Laid BY PROGRAM, IN A SANDBOX (cutbox-door.mjs). By AI agents, Wed Nov 11 2026. No macro, syntax, notation, axiom, sorry.
-/
import Derived.Test.YtiibhahhjkaodaaGreatDoorRows
import GoSem.ClaimSeven
namespace Go.Proofs.YtiibhahhjkaodaaGreatDoor
namespace Rows

/-- THE TIED CARD OF 'laws.FnTickets'. -/
def fnTicketsCard : Claim7 := { stood := { row := fnTicketsRow, standIns := [], harness := (true, "db67995da53ff49c642344cc6c6b68d991444343f681eb15b9e4f009632a2b83"), looks := true }, kinds := [], alts := [], laidByText := true, laidKinds := [.data, .data, .data, .data, .sentinel, .sentinel, .pinned], laidTests := true, laidLooks := .later }
def FnTicketsCardSaid : Prop := Claim7.holds Tryz.pinned (.plain (OpenSpec.ofChange fnTicketsSpec)) fnTicketsCard

/-- THE SECOND FORM's CARD OF 'laws.FnTickets'. -/
def fnTicketsUptoCard : Claim7 := { stood := { row := fnTicketsUptoRow, standIns := [], harness := (true, "db67995da53ff49c642344cc6c6b68d991444343f681eb15b9e4f009632a2b83"), looks := true }, kinds := [], alts := [], laidByText := true, laidKinds := [.data, .data, .data, .data, .sentinel, .sentinel, .pinned], laidTests := true, laidLooks := .later }
def FnTicketsUptoCardSaid : Prop := Claim7.holds Tryz.pinned (.plain (OpenSpec.upto fnTicketsSpec)) fnTicketsUptoCard
end Rows
end Go.Proofs.YtiibhahhjkaodaaGreatDoor
