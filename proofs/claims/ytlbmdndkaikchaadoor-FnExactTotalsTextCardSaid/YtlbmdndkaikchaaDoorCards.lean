/-
  DERIVED. GIVEN WITH THE SEED: THE CARDS: each row of YtlbmdndkaikchaaDoorRows.lean that lists a variable, with what it lists TIED to the program's text (the seventh form; the later family's looks); each row that meets fmt, with fmt's text TOLD by the authors' own Lean function (tested against real Go, not proved from fmt's source: count such statements apart). THE CARD IS WHAT COUNTS. Prove the row's statement (the work); the ties are given (YtlbmdndkaikchaaDoorTie.lean); close each card by the builder's one call (the guide's Derived/Test/ToyasCard.lean, 'card_holds'). Laid BY PROGRAM, IN A SANDBOX (cutbox-door.mjs). By AI agents, Wed Nov 11 2026. No macro, syntax, notation, axiom, sorry.
-/
import Derived.Test.YtlbmdndkaikchaaDoorRows
import GoSem.ClaimSeven
namespace Go.Proofs.YtlbmdndkaikchaaDoor
namespace Rows

/-- THE TIED CARD OF 'laws.FnExactTotalsText'. -/
def fnExactTotalsTextCard : Claim7 := { stood := { row := fnExactTotalsTextRow, standIns := [], harness := (true, "5ec4522feb00b7ceb94df038d3edae427f03c57c65b6da146cb2cffd1bb91cc5"), looks := false }, kinds := [], alts := [], laidByText := true, laidKinds := [.data, .data, .data], laidTests := true, laidLooks := .later }
def FnExactTotalsTextCardSaid : Prop := Claim7.holds Tryd.pinned (.plain (OpenSpec.ofChange fnExactTotalsTextSpec)) fnExactTotalsTextCard

/-- THE SECOND FORM's CARD OF 'laws.FnExactTotalsText'. -/
def fnExactTotalsTextUptoCard : Claim7 := { stood := { row := fnExactTotalsTextUptoRow, standIns := [], harness := (true, "5ec4522feb00b7ceb94df038d3edae427f03c57c65b6da146cb2cffd1bb91cc5"), looks := false }, kinds := [], alts := [], laidByText := true, laidKinds := [.data, .data, .data], laidTests := true, laidLooks := .later }
def FnExactTotalsTextUptoCardSaid : Prop := Claim7.holds Tryd.pinned (.plain (OpenSpec.upto fnExactTotalsTextSpec)) fnExactTotalsTextUptoCard
end Rows
end Go.Proofs.YtlbmdndkaikchaaDoor
