/-
  DERIVED. GIVEN WITH THE SEED: THE CARDS: each row of YtejedjgajcjejaaGreatDoorRows.lean that lists a variable, with what it lists TIED to the program's text (the seventh form; the later family's looks); each row that meets fmt, with fmt's text TOLD by the authors' own Lean function (tested against real Go, not proved from fmt's source: count such statements apart). THE CARD IS WHAT COUNTS. Prove the row's statement (the work); the ties are given (YtejedjgajcjejaaGreatDoorTie.lean); close each card by the builder's one call (the guide's Derived/Test/ToyasCard.lean, 'card_holds'). Laid BY PROGRAM, IN A SANDBOX (cutbox-door.mjs). By AI agents, Wed Nov 11 2026. No macro, syntax, notation, axiom, sorry.
-/
import Derived.Test.YtejedjgajcjejaaGreatDoorRows
import GoSem.ClaimSeven
namespace Go.Proofs.YtejedjgajcjejaaGreatDoor
namespace Rows

/-- THE TIED CARD OF 'laws.FnExactReadTicket'. -/
def fnExactReadTicketCard : Claim7 := { stood := { row := fnExactReadTicketRow, standIns := [], harness := (true, "7a627e106df73b110b837aaad8307ca727dd6bf81cccc2c87c153e50fd943dfe"), looks := true }, kinds := [], alts := [], laidByText := true, laidKinds := [.data, .data, .data, .data, .sentinel, .sentinel, .pinned], laidTests := true, laidLooks := .later }
def FnExactReadTicketCardSaid : Prop := Claim7.holds Tryz.pinned (.plain (OpenSpec.ofChange fnExactReadTicketSpec)) fnExactReadTicketCard

/-- THE TIED CARD OF 'laws.FnExactReadLog'. -/
def fnExactReadLogCard : Claim7 := { stood := { row := fnExactReadLogRow, standIns := [], harness := (true, "7a627e106df73b110b837aaad8307ca727dd6bf81cccc2c87c153e50fd943dfe"), looks := true }, kinds := [], alts := [], laidByText := true, laidKinds := [.data, .data, .data, .data, .sentinel, .sentinel, .pinned], laidTests := true, laidLooks := .later }
def FnExactReadLogCardSaid : Prop := Claim7.holds Tryz.pinned (.plain (OpenSpec.ofChange fnExactReadLogSpec)) fnExactReadLogCard

/-- THE SECOND FORM's CARD OF 'laws.FnExactReadTicket'. -/
def fnExactReadTicketUptoCard : Claim7 := { stood := { row := fnExactReadTicketUptoRow, standIns := [], harness := (true, "7a627e106df73b110b837aaad8307ca727dd6bf81cccc2c87c153e50fd943dfe"), looks := true }, kinds := [], alts := [], laidByText := true, laidKinds := [.data, .data, .data, .data, .sentinel, .sentinel, .pinned], laidTests := true, laidLooks := .later }
def FnExactReadTicketUptoCardSaid : Prop := Claim7.holds Tryz.pinned (.plain (OpenSpec.upto fnExactReadTicketSpec)) fnExactReadTicketUptoCard

/-- THE SECOND FORM's CARD OF 'laws.FnExactReadLog'. -/
def fnExactReadLogUptoCard : Claim7 := { stood := { row := fnExactReadLogUptoRow, standIns := [], harness := (true, "7a627e106df73b110b837aaad8307ca727dd6bf81cccc2c87c153e50fd943dfe"), looks := true }, kinds := [], alts := [], laidByText := true, laidKinds := [.data, .data, .data, .data, .sentinel, .sentinel, .pinned], laidTests := true, laidLooks := .later }
def FnExactReadLogUptoCardSaid : Prop := Claim7.holds Tryz.pinned (.plain (OpenSpec.upto fnExactReadLogSpec)) fnExactReadLogUptoCard
end Rows
end Go.Proofs.YtejedjgajcjejaaGreatDoor
