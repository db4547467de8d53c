/-
  DERIVED. GIVEN WITH THE SEED: THE CARDS: each row of YthfbmkfbmmjchaaDoorRows.lean that lists a variable, with what it lists TIED to the program's text (the seventh form; the later family's looks); each row that meets fmt, with fmt's text TOLD by the authors' own Lean function (tested against real Go, not proved from fmt's source: count such statements apart). THE CARD IS WHAT COUNTS. Prove the row's statement (the work); the ties are given (YthfbmkfbmmjchaaDoorTie.lean); close each card by the builder's one call (the guide's Derived/Test/ToyasCard.lean, 'card_holds'). Laid BY PROGRAM, IN A SANDBOX (cutbox-door.mjs). By AI agents, Wed Nov 11 2026. No macro, syntax, notation, axiom, sorry.
-/
import Derived.Test.YthfbmkfbmmjchaaDoorRows
import GoSem.ClaimSeven
namespace Go.Proofs.YthfbmkfbmmjchaaDoor
namespace Rows

/-- THE TIED CARD OF 'laws.FnExactActsText'. -/
def fnExactActsTextCard : Claim7 := { stood := { row := fnExactActsTextRow, standIns := [], harness := (true, "33804e5c41d5f30f185760f002b16c8f5fe477933d4a05a968d92d127615b94b"), looks := false }, kinds := [], alts := [], laidByText := true, laidKinds := [.data, .data, .data], laidTests := true, laidLooks := .later }
def FnExactActsTextCardSaid : Prop := Claim7.holds Tryd.pinned (.plain (OpenSpec.ofChange fnExactActsTextSpec)) fnExactActsTextCard

/-- THE TIED CARD OF 'laws.FnExactPhotoText'. -/
def fnExactPhotoTextCard : Claim7 := { stood := { row := fnExactPhotoTextRow, standIns := [], harness := (true, "33804e5c41d5f30f185760f002b16c8f5fe477933d4a05a968d92d127615b94b"), looks := false }, kinds := [], alts := [], laidByText := true, laidKinds := [.data, .data, .data], laidTests := true, laidLooks := .later }
def FnExactPhotoTextCardSaid : Prop := Claim7.holds Tryd.pinned (.plain (OpenSpec.ofChange fnExactPhotoTextSpec)) fnExactPhotoTextCard

/-- THE TIED CARD OF 'laws.FnExactDigitsText'. -/
def fnExactDigitsTextCard : Claim7 := { stood := { row := fnExactDigitsTextRow, standIns := [], harness := (true, "33804e5c41d5f30f185760f002b16c8f5fe477933d4a05a968d92d127615b94b"), looks := false }, kinds := [], alts := [], laidByText := true, laidKinds := [.data, .data, .data], laidTests := true, laidLooks := .later }
def FnExactDigitsTextCardSaid : Prop := Claim7.holds Tryd.pinned (.plain (OpenSpec.ofChange fnExactDigitsTextSpec)) fnExactDigitsTextCard

/-- THE TIED CARD OF 'laws.FnExactTicketText'. -/
def fnExactTicketTextCard : Claim7 := { stood := { row := fnExactTicketTextRow, standIns := [], harness := (true, "33804e5c41d5f30f185760f002b16c8f5fe477933d4a05a968d92d127615b94b"), looks := false }, kinds := [], alts := [], laidByText := true, laidKinds := [.data, .data, .data], laidTests := true, laidLooks := .later }
def FnExactTicketTextCardSaid : Prop := Claim7.holds Tryd.pinned (.plain (OpenSpec.ofChange fnExactTicketTextSpec)) fnExactTicketTextCard

/-- THE TIED CARD OF 'laws.FnExactLogText'. -/
def fnExactLogTextCard : Claim7 := { stood := { row := fnExactLogTextRow, standIns := [], harness := (true, "33804e5c41d5f30f185760f002b16c8f5fe477933d4a05a968d92d127615b94b"), looks := false }, kinds := [], alts := [], laidByText := true, laidKinds := [.data, .data, .data], laidTests := true, laidLooks := .later }
def FnExactLogTextCardSaid : Prop := Claim7.holds Tryd.pinned (.plain (OpenSpec.ofChange fnExactLogTextSpec)) fnExactLogTextCard

/-- THE SECOND FORM's CARD OF 'laws.FnExactActsText'. -/
def fnExactActsTextUptoCard : Claim7 := { stood := { row := fnExactActsTextUptoRow, standIns := [], harness := (true, "33804e5c41d5f30f185760f002b16c8f5fe477933d4a05a968d92d127615b94b"), looks := false }, kinds := [], alts := [], laidByText := true, laidKinds := [.data, .data, .data], laidTests := true, laidLooks := .later }
def FnExactActsTextUptoCardSaid : Prop := Claim7.holds Tryd.pinned (.plain (OpenSpec.upto fnExactActsTextSpec)) fnExactActsTextUptoCard

/-- THE SECOND FORM's CARD OF 'laws.FnExactPhotoText'. -/
def fnExactPhotoTextUptoCard : Claim7 := { stood := { row := fnExactPhotoTextUptoRow, standIns := [], harness := (true, "33804e5c41d5f30f185760f002b16c8f5fe477933d4a05a968d92d127615b94b"), looks := false }, kinds := [], alts := [], laidByText := true, laidKinds := [.data, .data, .data], laidTests := true, laidLooks := .later }
def FnExactPhotoTextUptoCardSaid : Prop := Claim7.holds Tryd.pinned (.plain (OpenSpec.upto fnExactPhotoTextSpec)) fnExactPhotoTextUptoCard

/-- THE SECOND FORM's CARD OF 'laws.FnExactDigitsText'. -/
def fnExactDigitsTextUptoCard : Claim7 := { stood := { row := fnExactDigitsTextUptoRow, standIns := [], harness := (true, "33804e5c41d5f30f185760f002b16c8f5fe477933d4a05a968d92d127615b94b"), looks := false }, kinds := [], alts := [], laidByText := true, laidKinds := [.data, .data, .data], laidTests := true, laidLooks := .later }
def FnExactDigitsTextUptoCardSaid : Prop := Claim7.holds Tryd.pinned (.plain (OpenSpec.upto fnExactDigitsTextSpec)) fnExactDigitsTextUptoCard

/-- THE SECOND FORM's CARD OF 'laws.FnExactTicketText'. -/
def fnExactTicketTextUptoCard : Claim7 := { stood := { row := fnExactTicketTextUptoRow, standIns := [], harness := (true, "33804e5c41d5f30f185760f002b16c8f5fe477933d4a05a968d92d127615b94b"), looks := false }, kinds := [], alts := [], laidByText := true, laidKinds := [.data, .data, .data], laidTests := true, laidLooks := .later }
def FnExactTicketTextUptoCardSaid : Prop := Claim7.holds Tryd.pinned (.plain (OpenSpec.upto fnExactTicketTextSpec)) fnExactTicketTextUptoCard

/-- THE SECOND FORM's CARD OF 'laws.FnExactLogText'. -/
def fnExactLogTextUptoCard : Claim7 := { stood := { row := fnExactLogTextUptoRow, standIns := [], harness := (true, "33804e5c41d5f30f185760f002b16c8f5fe477933d4a05a968d92d127615b94b"), looks := false }, kinds := [], alts := [], laidByText := true, laidKinds := [.data, .data, .data], laidTests := true, laidLooks := .later }
def FnExactLogTextUptoCardSaid : Prop := Claim7.holds Tryd.pinned (.plain (OpenSpec.upto fnExactLogTextSpec)) fnExactLogTextUptoCard
end Rows
end Go.Proofs.YthfbmkfbmmjchaaDoor
