/-
  DERIVED. GIVEN WITH THE SEED: THE CARDS: each row of YtddflaaccmjoeaaGreatDoorRows.lean that lists a variable, with what it lists TIED to the program's text (the seventh form; the later family's looks); each row that meets fmt, with fmt's text TOLD by the authors' own Lean function (tested against real Go, not proved from fmt's source: count such statements apart). THE CARD IS WHAT COUNTS. Prove the row's statement (the work); the ties are given (YtddflaaccmjoeaaGreatDoorTie.lean); close each card by the builder's one call (the guide's Derived/Test/ToyasCard.lean, 'card_holds'). Laid BY PROGRAM, IN A SANDBOX (cutbox-door.mjs). By AI agents, Wed Nov 11 2026. No macro, syntax, notation, axiom, sorry.
-/
import Derived.Test.YtddflaaccmjoeaaGreatDoorRows
import GoSem.ClaimSeven
namespace Go.Proofs.YtddflaaccmjoeaaGreatDoor
namespace Rows

/-- THE TIED CARD OF 'laws.FnStories'. -/
def fnStoriesCard : Claim7 := { stood := { row := fnStoriesRow, standIns := [], harness := (true, "c9b3e4f138226a5f0c332a8c1b4de41cd66f5c34ff753da367b44b7d6b58dccc"), looks := true }, kinds := [], alts := [], laidByText := true, laidKinds := [.data, .data, .data, .data, .sentinel, .sentinel, .pinned], laidTests := true, laidLooks := .later }
def FnStoriesCardSaid : Prop := Claim7.holds Tryz.pinned (.plain (OpenSpec.ofChange fnStoriesSpec)) fnStoriesCard

/-- THE SECOND FORM's CARD OF 'laws.FnStories'. -/
def fnStoriesUptoCard : Claim7 := { stood := { row := fnStoriesUptoRow, standIns := [], harness := (true, "c9b3e4f138226a5f0c332a8c1b4de41cd66f5c34ff753da367b44b7d6b58dccc"), looks := true }, kinds := [], alts := [], laidByText := true, laidKinds := [.data, .data, .data, .data, .sentinel, .sentinel, .pinned], laidTests := true, laidLooks := .later }
def FnStoriesUptoCardSaid : Prop := Claim7.holds Tryz.pinned (.plain (OpenSpec.upto fnStoriesSpec)) fnStoriesUptoCard
end Rows
end Go.Proofs.YtddflaaccmjoeaaGreatDoor
