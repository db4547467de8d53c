/-
  DERIVED. GIVEN WITH THE SEED: THE CARDS: each row of YthabjnhfhmbamaaGreatDoorRows.lean that lists a variable, with what it lists TIED to the program's text (the seventh form; the later family's looks); each row that meets fmt, with fmt's text TOLD by the authors' own Lean function (tested against real Go, not proved from fmt's source: count such statements apart). THE CARD IS WHAT COUNTS. Prove the row's statement (the work); the ties are given (YthabjnhfhmbamaaGreatDoorTie.lean); close each card by the builder's one call (the guide's Derived/Test/ToyasCard.lean, 'card_holds'). Laid BY PROGRAM, IN A SANDBOX (cutbox-door.mjs). By AI agents, Wed Nov 11 2026. No macro, syntax, notation, axiom, sorry.
-/
import Derived.Test.YthabjnhfhmbamaaGreatDoorRows
import GoSem.ClaimSeven
namespace Go.Proofs.YthabjnhfhmbamaaGreatDoor
namespace Rows

/-- THE TIED CARD OF 'laws.FnDevices'. -/
def fnDevicesCard : Claim7 := { stood := { row := fnDevicesRow, standIns := [], harness := (true, "37018fdbcded84bc7f69f5ff988e11d48613076f17e18caef97b7f7ddc78a063"), looks := true }, kinds := [], alts := [], laidByText := true, laidKinds := [.data, .data, .data, .data, .sentinel, .sentinel, .pinned], laidTests := true, laidLooks := .later }
def FnDevicesCardSaid : Prop := Claim7.holds Tryz.pinned (.plain (OpenSpec.ofChange fnDevicesSpec)) fnDevicesCard

/-- THE SECOND FORM's CARD OF 'laws.FnDevices'. -/
def fnDevicesUptoCard : Claim7 := { stood := { row := fnDevicesUptoRow, standIns := [], harness := (true, "37018fdbcded84bc7f69f5ff988e11d48613076f17e18caef97b7f7ddc78a063"), looks := true }, kinds := [], alts := [], laidByText := true, laidKinds := [.data, .data, .data, .data, .sentinel, .sentinel, .pinned], laidTests := true, laidLooks := .later }
def FnDevicesUptoCardSaid : Prop := Claim7.holds Tryz.pinned (.plain (OpenSpec.upto fnDevicesSpec)) fnDevicesUptoCard
end Rows
end Go.Proofs.YthabjnhfhmbamaaGreatDoor
