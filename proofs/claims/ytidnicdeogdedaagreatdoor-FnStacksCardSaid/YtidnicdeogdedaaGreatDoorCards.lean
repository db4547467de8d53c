/-
  DERIVED. GIVEN WITH THE SEED: THE CARDS: each row of YtidnicdeogdedaaGreatDoorRows.lean that lists a variable, with what it lists TIED to the program's text (the seventh form; the later family's looks); each row that meets fmt, with fmt's text TOLD by the authors' own Lean function (tested against real Go, not proved from fmt's source: count such statements apart). THE CARD IS WHAT COUNTS. Prove the row's statement (the work); the ties are given (YtidnicdeogdedaaGreatDoorTie.lean); close each card by the builder's one call (the guide's Derived/Test/ToyasCard.lean, 'card_holds'). Laid BY PROGRAM, IN A SANDBOX (cutbox-door.mjs). By AI agents, Wed Nov 11 2026. No macro, syntax, notation, axiom, sorry.
-/
import Derived.Test.YtidnicdeogdedaaGreatDoorRows
import GoSem.ClaimSeven
namespace Go.Proofs.YtidnicdeogdedaaGreatDoor
namespace Rows

/-- THE TIED CARD OF 'laws.FnStacks'. -/
def fnStacksCard : Claim7 := { stood := { row := fnStacksRow, standIns := [], harness := (true, "ad7323a33a406d8668b2487f4486503e8c1ac88d6e4aa7fc9b357053cfc88e37"), looks := true }, kinds := [], alts := [], laidByText := true, laidKinds := [.data, .data, .data, .data, .sentinel, .sentinel, .pinned], laidTests := true, laidLooks := .later }
def FnStacksCardSaid : Prop := Claim7.holds Tryz.pinned (.plain (OpenSpec.ofChange fnStacksSpec)) fnStacksCard

/-- THE SECOND FORM's CARD OF 'laws.FnStacks'. -/
def fnStacksUptoCard : Claim7 := { stood := { row := fnStacksUptoRow, standIns := [], harness := (true, "ad7323a33a406d8668b2487f4486503e8c1ac88d6e4aa7fc9b357053cfc88e37"), looks := true }, kinds := [], alts := [], laidByText := true, laidKinds := [.data, .data, .data, .data, .sentinel, .sentinel, .pinned], laidTests := true, laidLooks := .later }
def FnStacksUptoCardSaid : Prop := Claim7.holds Tryz.pinned (.plain (OpenSpec.upto fnStacksSpec)) fnStacksUptoCard
end Rows
end Go.Proofs.YtidnicdeogdedaaGreatDoor
