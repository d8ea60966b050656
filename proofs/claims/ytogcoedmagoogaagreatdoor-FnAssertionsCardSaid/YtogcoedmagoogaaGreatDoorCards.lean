/-
  DERIVED. GIVEN WITH THE SEED: THE CARDS: each row of YtogcoedmagoogaaGreatDoorRows.lean that lists a variable, with what it lists TIED to the program's text (the seventh form; the later family's looks); each row that meets fmt, with fmt's text TOLD by the authors' own Lean function (tested against real Go, not proved from fmt's source: count such statements apart). THE CARD IS WHAT COUNTS. Prove the row's statement (the work); the ties are given (YtogcoedmagoogaaGreatDoorTie.lean); close each card by the builder's one call (the guide's Derived/Test/ToyasCard.lean, 'card_holds'). Laid BY PROGRAM, IN A SANDBOX (cutbox-door.mjs). By AI agents, Wed Nov 11 2026. No macro, syntax, notation, axiom, sorry.
-/
import Derived.Test.YtogcoedmagoogaaGreatDoorRows
import GoSem.ClaimSeven
namespace Go.Proofs.YtogcoedmagoogaaGreatDoor
namespace Rows

/-- THE TIED CARD OF 'laws.FnAssertions'. -/
def fnAssertionsCard : Claim7 := { stood := { row := fnAssertionsRow, standIns := [], harness := (true, "4fe72e79e550c69fada28e644398aa7990b94de0ce96a26e7638290c237d0d65"), looks := true }, kinds := [], alts := [], laidByText := true, laidKinds := [.data, .data, .data, .data, .sentinel, .sentinel, .pinned], laidTests := true, laidLooks := .later }
def FnAssertionsCardSaid : Prop := Claim7.holds Tryz.pinned (.plain (OpenSpec.ofChange fnAssertionsSpec)) fnAssertionsCard

/-- THE TIED CARD OF 'laws.FnExactCheckAssertion'. -/
def fnExactCheckAssertionCard : Claim7 := { stood := { row := fnExactCheckAssertionRow, standIns := [], harness := (true, "4fe72e79e550c69fada28e644398aa7990b94de0ce96a26e7638290c237d0d65"), looks := true }, kinds := [], alts := [], laidByText := true, laidKinds := [.data, .data, .data, .data, .sentinel, .sentinel, .pinned], laidTests := true, laidLooks := .later }
def FnExactCheckAssertionCardSaid : Prop := Claim7.holds Tryz.pinned (.plain (OpenSpec.ofChange fnExactCheckAssertionSpec)) fnExactCheckAssertionCard

/-- THE TIED CARD OF 'laws.FnPhishing'. -/
def fnPhishingCard : Claim7 := { stood := { row := fnPhishingRow, standIns := [], harness := (true, "4fe72e79e550c69fada28e644398aa7990b94de0ce96a26e7638290c237d0d65"), looks := true }, kinds := [], alts := [], laidByText := true, laidKinds := [.data, .data, .data, .data, .sentinel, .sentinel, .pinned], laidTests := true, laidLooks := .later }
def FnPhishingCardSaid : Prop := Claim7.holds Tryz.pinned (.plain (OpenSpec.ofChange fnPhishingSpec)) fnPhishingCard

/-- THE TIED CARD OF 'laws.FnOrigins'. -/
def fnOriginsCard : Claim7 := { stood := { row := fnOriginsRow, standIns := [], harness := (true, "4fe72e79e550c69fada28e644398aa7990b94de0ce96a26e7638290c237d0d65"), looks := true }, kinds := [], alts := [], laidByText := true, laidKinds := [.data, .data, .data, .data, .sentinel, .sentinel, .pinned], laidTests := true, laidLooks := .later }
def FnOriginsCardSaid : Prop := Claim7.holds Tryz.pinned (.plain (OpenSpec.ofChange fnOriginsSpec)) fnOriginsCard

/-- THE SECOND FORM's CARD OF 'laws.FnAssertions'. -/
def fnAssertionsUptoCard : Claim7 := { stood := { row := fnAssertionsUptoRow, standIns := [], harness := (true, "4fe72e79e550c69fada28e644398aa7990b94de0ce96a26e7638290c237d0d65"), looks := true }, kinds := [], alts := [], laidByText := true, laidKinds := [.data, .data, .data, .data, .sentinel, .sentinel, .pinned], laidTests := true, laidLooks := .later }
def FnAssertionsUptoCardSaid : Prop := Claim7.holds Tryz.pinned (.plain (OpenSpec.upto fnAssertionsSpec)) fnAssertionsUptoCard

/-- THE SECOND FORM's CARD OF 'laws.FnExactCheckAssertion'. -/
def fnExactCheckAssertionUptoCard : Claim7 := { stood := { row := fnExactCheckAssertionUptoRow, standIns := [], harness := (true, "4fe72e79e550c69fada28e644398aa7990b94de0ce96a26e7638290c237d0d65"), looks := true }, kinds := [], alts := [], laidByText := true, laidKinds := [.data, .data, .data, .data, .sentinel, .sentinel, .pinned], laidTests := true, laidLooks := .later }
def FnExactCheckAssertionUptoCardSaid : Prop := Claim7.holds Tryz.pinned (.plain (OpenSpec.upto fnExactCheckAssertionSpec)) fnExactCheckAssertionUptoCard

/-- THE SECOND FORM's CARD OF 'laws.FnPhishing'. -/
def fnPhishingUptoCard : Claim7 := { stood := { row := fnPhishingUptoRow, standIns := [], harness := (true, "4fe72e79e550c69fada28e644398aa7990b94de0ce96a26e7638290c237d0d65"), looks := true }, kinds := [], alts := [], laidByText := true, laidKinds := [.data, .data, .data, .data, .sentinel, .sentinel, .pinned], laidTests := true, laidLooks := .later }
def FnPhishingUptoCardSaid : Prop := Claim7.holds Tryz.pinned (.plain (OpenSpec.upto fnPhishingSpec)) fnPhishingUptoCard

/-- THE SECOND FORM's CARD OF 'laws.FnOrigins'. -/
def fnOriginsUptoCard : Claim7 := { stood := { row := fnOriginsUptoRow, standIns := [], harness := (true, "4fe72e79e550c69fada28e644398aa7990b94de0ce96a26e7638290c237d0d65"), looks := true }, kinds := [], alts := [], laidByText := true, laidKinds := [.data, .data, .data, .data, .sentinel, .sentinel, .pinned], laidTests := true, laidLooks := .later }
def FnOriginsUptoCardSaid : Prop := Claim7.holds Tryz.pinned (.plain (OpenSpec.upto fnOriginsSpec)) fnOriginsUptoCard
end Rows
end Go.Proofs.YtogcoedmagoogaaGreatDoor
