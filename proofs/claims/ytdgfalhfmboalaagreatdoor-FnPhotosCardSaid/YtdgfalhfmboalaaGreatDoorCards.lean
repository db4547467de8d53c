/-
  DERIVED. GIVEN WITH THE SEED: THE CARDS: each row of YtdgfalhfmboalaaGreatDoorRows.lean that lists a variable, with what it lists TIED to the program's text (the seventh form; the later family's looks); each row that meets fmt, with fmt's text TOLD by the authors' own Lean function (tested against real Go, not proved from fmt's source: count such statements apart). THE CARD IS WHAT COUNTS. Prove the row's statement (the work); the ties are given (YtdgfalhfmboalaaGreatDoorTie.lean); close each card by the builder's one call (the guide's Derived/Test/ToyasCard.lean, 'card_holds'). Laid BY PROGRAM, IN A SANDBOX (cutbox-door.mjs). By AI agents, Wed Nov 11 2026. No macro, syntax, notation, axiom, sorry.
-/
import Derived.Test.YtdgfalhfmboalaaGreatDoorRows
import GoSem.ClaimSeven
namespace Go.Proofs.YtdgfalhfmboalaaGreatDoor
namespace Rows

/-- THE TIED CARD OF 'laws.FnPhotos'. -/
def fnPhotosCard : Claim7 := { stood := { row := fnPhotosRow, standIns := [], harness := (true, "cc571c28856ca573e5a1bd620d9fbebbac0fa91ec6cee9d361f766d0f359cefc"), looks := true }, kinds := [], alts := [], laidByText := true, laidKinds := [.data, .data, .data, .data, .sentinel, .sentinel, .pinned], laidTests := true, laidLooks := .later }
def FnPhotosCardSaid : Prop := Claim7.holds Tryz.pinned (.plain (OpenSpec.ofChange fnPhotosSpec)) fnPhotosCard

/-- THE SECOND FORM's CARD OF 'laws.FnPhotos'. -/
def fnPhotosUptoCard : Claim7 := { stood := { row := fnPhotosUptoRow, standIns := [], harness := (true, "cc571c28856ca573e5a1bd620d9fbebbac0fa91ec6cee9d361f766d0f359cefc"), looks := true }, kinds := [], alts := [], laidByText := true, laidKinds := [.data, .data, .data, .data, .sentinel, .sentinel, .pinned], laidTests := true, laidLooks := .later }
def FnPhotosUptoCardSaid : Prop := Claim7.holds Tryz.pinned (.plain (OpenSpec.upto fnPhotosSpec)) fnPhotosUptoCard
end Rows
end Go.Proofs.YtdgfalhfmboalaaGreatDoor
