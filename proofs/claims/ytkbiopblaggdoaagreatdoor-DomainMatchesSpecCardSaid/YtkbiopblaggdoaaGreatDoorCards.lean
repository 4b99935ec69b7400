/-
  DERIVED. GIVEN WITH THE SEED: THE CARDS: each row of YtkbiopblaggdoaaGreatDoorRows.lean that lists a variable, with what it lists TIED to the program's text (the seventh form; the later family's looks); each row that meets fmt, with fmt's text TOLD by the authors' own Lean function (tested against real Go, not proved from fmt's source: count such statements apart). THE CARD IS WHAT COUNTS. Prove the row's statement (the work); the ties are given (YtkbiopblaggdoaaGreatDoorTie.lean); close each card by the builder's one call (the guide's Derived/Test/ToyasCard.lean, 'card_holds'). Laid BY PROGRAM, IN A SANDBOX (cutbox-door.mjs). By AI agents, Wed Nov 11 2026. No macro, syntax, notation, axiom, sorry.
-/
import Derived.Test.YtkbiopblaggdoaaGreatDoorRows
import GoSem.ClaimSeven
namespace Go.Proofs.YtkbiopblaggdoaaGreatDoor
namespace Rows

/-- THE TIED CARD OF 'helmsmanlaw1.DomainMatchesSpec'. -/
def domainMatchesSpecCard : Claim7 := { stood := { row := domainMatchesSpecRow, standIns := [], harness := (true, "00aa397dd883e1fc2e6902a665126ec938d66c42ec090dcb602fde1c91bd1e8c"), looks := true }, kinds := [], alts := [], laidByText := true, laidKinds := [.data, .data, .data, .sentinel, .sentinel], laidTests := true, laidLooks := .later }
def DomainMatchesSpecCardSaid : Prop := Claim7.holds Tryz.pinned (.plain (OpenSpec.ofChange domainMatchesSpecSpec)) domainMatchesSpecCard

/-- THE TIED CARD OF 'helmsmanlaw1.DomainTextsRoundTrip'. -/
def domainTextsRoundTripCard : Claim7 := { stood := { row := domainTextsRoundTripRow, standIns := [], harness := (true, "00aa397dd883e1fc2e6902a665126ec938d66c42ec090dcb602fde1c91bd1e8c"), looks := true }, kinds := [], alts := [], laidByText := true, laidKinds := [.data, .data, .data, .sentinel, .sentinel], laidTests := true, laidLooks := .later }
def DomainTextsRoundTripCardSaid : Prop := Claim7.holds Tryz.pinned (.plain (OpenSpec.ofChange domainTextsRoundTripSpec)) domainTextsRoundTripCard

/-- THE TIED CARD OF 'helmsmanlaw1.DomainTextsAreExpressions'. -/
def domainTextsAreExpressionsCard : Claim7 := { stood := { row := domainTextsAreExpressionsRow, standIns := [], harness := (true, "00aa397dd883e1fc2e6902a665126ec938d66c42ec090dcb602fde1c91bd1e8c"), looks := true }, kinds := [], alts := [], laidByText := true, laidKinds := [.data, .data, .data, .sentinel, .sentinel], laidTests := true, laidLooks := .later }
def DomainTextsAreExpressionsCardSaid : Prop := Claim7.holds Tryz.pinned (.plain (OpenSpec.ofChange domainTextsAreExpressionsSpec)) domainTextsAreExpressionsCard

/-- THE TIED CARD OF 'helmsmanlaw1.DomainSubtypesMayStand'. -/
def domainSubtypesMayStandCard : Claim7 := { stood := { row := domainSubtypesMayStandRow, standIns := [], harness := (true, "00aa397dd883e1fc2e6902a665126ec938d66c42ec090dcb602fde1c91bd1e8c"), looks := true }, kinds := [], alts := [], laidByText := true, laidKinds := [.data, .data, .data, .sentinel, .sentinel], laidTests := true, laidLooks := .later }
def DomainSubtypesMayStandCardSaid : Prop := Claim7.holds Tryz.pinned (.plain (OpenSpec.ofChange domainSubtypesMayStandSpec)) domainSubtypesMayStandCard

/-- THE SECOND FORM's CARD OF 'helmsmanlaw1.DomainMatchesSpec'. -/
def domainMatchesSpecUptoCard : Claim7 := { stood := { row := domainMatchesSpecUptoRow, standIns := [], harness := (true, "00aa397dd883e1fc2e6902a665126ec938d66c42ec090dcb602fde1c91bd1e8c"), looks := true }, kinds := [], alts := [], laidByText := true, laidKinds := [.data, .data, .data, .sentinel, .sentinel], laidTests := true, laidLooks := .later }
def DomainMatchesSpecUptoCardSaid : Prop := Claim7.holds Tryz.pinned (.plain (OpenSpec.upto domainMatchesSpecSpec)) domainMatchesSpecUptoCard

/-- THE SECOND FORM's CARD OF 'helmsmanlaw1.DomainTextsRoundTrip'. -/
def domainTextsRoundTripUptoCard : Claim7 := { stood := { row := domainTextsRoundTripUptoRow, standIns := [], harness := (true, "00aa397dd883e1fc2e6902a665126ec938d66c42ec090dcb602fde1c91bd1e8c"), looks := true }, kinds := [], alts := [], laidByText := true, laidKinds := [.data, .data, .data, .sentinel, .sentinel], laidTests := true, laidLooks := .later }
def DomainTextsRoundTripUptoCardSaid : Prop := Claim7.holds Tryz.pinned (.plain (OpenSpec.upto domainTextsRoundTripSpec)) domainTextsRoundTripUptoCard

/-- THE SECOND FORM's CARD OF 'helmsmanlaw1.DomainTextsAreExpressions'. -/
def domainTextsAreExpressionsUptoCard : Claim7 := { stood := { row := domainTextsAreExpressionsUptoRow, standIns := [], harness := (true, "00aa397dd883e1fc2e6902a665126ec938d66c42ec090dcb602fde1c91bd1e8c"), looks := true }, kinds := [], alts := [], laidByText := true, laidKinds := [.data, .data, .data, .sentinel, .sentinel], laidTests := true, laidLooks := .later }
def DomainTextsAreExpressionsUptoCardSaid : Prop := Claim7.holds Tryz.pinned (.plain (OpenSpec.upto domainTextsAreExpressionsSpec)) domainTextsAreExpressionsUptoCard

/-- THE SECOND FORM's CARD OF 'helmsmanlaw1.DomainSubtypesMayStand'. -/
def domainSubtypesMayStandUptoCard : Claim7 := { stood := { row := domainSubtypesMayStandUptoRow, standIns := [], harness := (true, "00aa397dd883e1fc2e6902a665126ec938d66c42ec090dcb602fde1c91bd1e8c"), looks := true }, kinds := [], alts := [], laidByText := true, laidKinds := [.data, .data, .data, .sentinel, .sentinel], laidTests := true, laidLooks := .later }
def DomainSubtypesMayStandUptoCardSaid : Prop := Claim7.holds Tryz.pinned (.plain (OpenSpec.upto domainSubtypesMayStandSpec)) domainSubtypesMayStandUptoCard
end Rows
end Go.Proofs.YtkbiopblaggdoaaGreatDoor
