/-
  DERIVED. GIVEN WITH THE SEED: THE CARDS: each row of YtejedjgajcjejaaDoorRows.lean that lists a variable, with what it lists TIED to the program's text (the seventh form; the later family's looks); each row that meets fmt, with fmt's text TOLD by the authors' own Lean function (tested against real Go, not proved from fmt's source: count such statements apart). THE CARD IS WHAT COUNTS. Prove the row's statement (the work); the ties are given (YtejedjgajcjejaaDoorTie.lean); close each card by the builder's one call (the guide's Derived/Test/ToyasCard.lean, 'card_holds'). Laid BY PROGRAM, IN A SANDBOX (cutbox-door.mjs). By AI agents, Wed Nov 11 2026. No macro, syntax, notation, axiom, sorry.
-/
import Derived.Test.YtejedjgajcjejaaDoorRows
import GoSem.ClaimSeven
namespace Go.Proofs.YtejedjgajcjejaaDoor
namespace Rows

/-- THE TIED CARD OF 'laws.FnExactReadTotals'. -/
def fnExactReadTotalsCard : Claim7 := { stood := { row := fnExactReadTotalsRow, standIns := [], harness := (true, "d17218b609f2665c114be6ead175f7c25e7fe4df641903813a18f2e5ed556b3b"), looks := true }, kinds := [], alts := [], laidByText := true, laidKinds := [.data, .data, .data, .data, .sentinel, .sentinel, .pinned], laidTests := true, laidLooks := .later }
def FnExactReadTotalsCardSaid : Prop := Claim7.holds Tryd.pinned (.plain (OpenSpec.ofChange fnExactReadTotalsSpec)) fnExactReadTotalsCard

/-- THE TIED CARD OF 'laws.FnExactReadActs'. -/
def fnExactReadActsCard : Claim7 := { stood := { row := fnExactReadActsRow, standIns := [], harness := (true, "d17218b609f2665c114be6ead175f7c25e7fe4df641903813a18f2e5ed556b3b"), looks := true }, kinds := [], alts := [], laidByText := true, laidKinds := [.data, .data, .data, .data, .sentinel, .sentinel, .pinned], laidTests := true, laidLooks := .later }
def FnExactReadActsCardSaid : Prop := Claim7.holds Tryd.pinned (.plain (OpenSpec.ofChange fnExactReadActsSpec)) fnExactReadActsCard

/-- THE TIED CARD OF 'laws.FnExactReadPhoto'. -/
def fnExactReadPhotoCard : Claim7 := { stood := { row := fnExactReadPhotoRow, standIns := [], harness := (true, "d17218b609f2665c114be6ead175f7c25e7fe4df641903813a18f2e5ed556b3b"), looks := true }, kinds := [], alts := [], laidByText := true, laidKinds := [.data, .data, .data, .data, .sentinel, .sentinel, .pinned], laidTests := true, laidLooks := .later }
def FnExactReadPhotoCardSaid : Prop := Claim7.holds Tryd.pinned (.plain (OpenSpec.ofChange fnExactReadPhotoSpec)) fnExactReadPhotoCard

/-- THE TIED CARD OF 'laws.FnExactReadDigits'. -/
def fnExactReadDigitsCard : Claim7 := { stood := { row := fnExactReadDigitsRow, standIns := [], harness := (true, "d17218b609f2665c114be6ead175f7c25e7fe4df641903813a18f2e5ed556b3b"), looks := true }, kinds := [], alts := [], laidByText := true, laidKinds := [.data, .data, .data, .data, .sentinel, .sentinel, .pinned], laidTests := true, laidLooks := .later }
def FnExactReadDigitsCardSaid : Prop := Claim7.holds Tryd.pinned (.plain (OpenSpec.ofChange fnExactReadDigitsSpec)) fnExactReadDigitsCard

/-- THE SECOND FORM's CARD OF 'laws.FnExactReadTotals'. -/
def fnExactReadTotalsUptoCard : Claim7 := { stood := { row := fnExactReadTotalsUptoRow, standIns := [], harness := (true, "d17218b609f2665c114be6ead175f7c25e7fe4df641903813a18f2e5ed556b3b"), looks := true }, kinds := [], alts := [], laidByText := true, laidKinds := [.data, .data, .data, .data, .sentinel, .sentinel, .pinned], laidTests := true, laidLooks := .later }
def FnExactReadTotalsUptoCardSaid : Prop := Claim7.holds Tryd.pinned (.plain (OpenSpec.upto fnExactReadTotalsSpec)) fnExactReadTotalsUptoCard

/-- THE SECOND FORM's CARD OF 'laws.FnExactReadActs'. -/
def fnExactReadActsUptoCard : Claim7 := { stood := { row := fnExactReadActsUptoRow, standIns := [], harness := (true, "d17218b609f2665c114be6ead175f7c25e7fe4df641903813a18f2e5ed556b3b"), looks := true }, kinds := [], alts := [], laidByText := true, laidKinds := [.data, .data, .data, .data, .sentinel, .sentinel, .pinned], laidTests := true, laidLooks := .later }
def FnExactReadActsUptoCardSaid : Prop := Claim7.holds Tryd.pinned (.plain (OpenSpec.upto fnExactReadActsSpec)) fnExactReadActsUptoCard

/-- THE SECOND FORM's CARD OF 'laws.FnExactReadPhoto'. -/
def fnExactReadPhotoUptoCard : Claim7 := { stood := { row := fnExactReadPhotoUptoRow, standIns := [], harness := (true, "d17218b609f2665c114be6ead175f7c25e7fe4df641903813a18f2e5ed556b3b"), looks := true }, kinds := [], alts := [], laidByText := true, laidKinds := [.data, .data, .data, .data, .sentinel, .sentinel, .pinned], laidTests := true, laidLooks := .later }
def FnExactReadPhotoUptoCardSaid : Prop := Claim7.holds Tryd.pinned (.plain (OpenSpec.upto fnExactReadPhotoSpec)) fnExactReadPhotoUptoCard

/-- THE SECOND FORM's CARD OF 'laws.FnExactReadDigits'. -/
def fnExactReadDigitsUptoCard : Claim7 := { stood := { row := fnExactReadDigitsUptoRow, standIns := [], harness := (true, "d17218b609f2665c114be6ead175f7c25e7fe4df641903813a18f2e5ed556b3b"), looks := true }, kinds := [], alts := [], laidByText := true, laidKinds := [.data, .data, .data, .data, .sentinel, .sentinel, .pinned], laidTests := true, laidLooks := .later }
def FnExactReadDigitsUptoCardSaid : Prop := Claim7.holds Tryd.pinned (.plain (OpenSpec.upto fnExactReadDigitsSpec)) fnExactReadDigitsUptoCard
end Rows
end Go.Proofs.YtejedjgajcjejaaDoor
