/-
  DERIVED. GIVEN WITH THE SEED: THE CARDS: each row of YtniimollalcjnaaGreatDoorRows.lean that lists a variable, with what it lists TIED to the program's text (the seventh form; the later family's looks); each row that meets fmt, with fmt's text TOLD by the authors' own Lean function (tested against real Go, not proved from fmt's source: count such statements apart). THE CARD IS WHAT COUNTS. Prove the row's statement (the work); the ties are given (YtniimollalcjnaaGreatDoorTie.lean); close each card by the builder's one call (the guide's Derived/Test/ToyasCard.lean, 'card_holds'). Laid BY PROGRAM, IN A SANDBOX (cutbox-door.mjs). By AI agents, Wed Nov 11 2026. No macro, syntax, notation, axiom, sorry.
-/
import Derived.Test.YtniimollalcjnaaGreatDoorRows
import GoSem.ClaimSeven
namespace Go.Proofs.YtniimollalcjnaaGreatDoor
namespace Rows

/-- THE TIED CARD OF 'laws.FnTotals'. -/
def fnTotalsCard : Claim7 := { stood := { row := fnTotalsRow, standIns := [], harness := (true, "dd34a0be80ede2fcaed3fbeed94987e293e6c7f3c4e2d026c3fb9c4efe81b5ae"), looks := true }, kinds := [], alts := [], laidByText := true, laidKinds := [.data, .data, .data, .data, .sentinel, .sentinel, .pinned], laidTests := true, laidLooks := .later }
def FnTotalsCardSaid : Prop := Claim7.holds Tryz.pinned (.plain (OpenSpec.ofChange fnTotalsSpec)) fnTotalsCard

/-- THE SECOND FORM's CARD OF 'laws.FnTotals'. -/
def fnTotalsUptoCard : Claim7 := { stood := { row := fnTotalsUptoRow, standIns := [], harness := (true, "dd34a0be80ede2fcaed3fbeed94987e293e6c7f3c4e2d026c3fb9c4efe81b5ae"), looks := true }, kinds := [], alts := [], laidByText := true, laidKinds := [.data, .data, .data, .data, .sentinel, .sentinel, .pinned], laidTests := true, laidLooks := .later }
def FnTotalsUptoCardSaid : Prop := Claim7.holds Tryz.pinned (.plain (OpenSpec.upto fnTotalsSpec)) fnTotalsUptoCard
end Rows
end Go.Proofs.YtniimollalcjnaaGreatDoor
