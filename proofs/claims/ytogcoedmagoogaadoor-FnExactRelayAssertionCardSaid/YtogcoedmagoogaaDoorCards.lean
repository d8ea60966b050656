/-
  DERIVED. GIVEN WITH THE SEED: THE CARDS: each row of YtogcoedmagoogaaDoorRows.lean that lists a variable, with what it lists TIED to the program's text (the seventh form; the later family's looks); each row that meets fmt, with fmt's text TOLD by the authors' own Lean function (tested against real Go, not proved from fmt's source: count such statements apart). THE CARD IS WHAT COUNTS. Prove the row's statement (the work); the ties are given (YtogcoedmagoogaaDoorTie.lean); close each card by the builder's one call (the guide's Derived/Test/ToyasCard.lean, 'card_holds'). Laid BY PROGRAM, IN A SANDBOX (cutbox-door.mjs). By AI agents, Wed Nov 11 2026. No macro, syntax, notation, axiom, sorry.
-/
import Derived.Test.YtogcoedmagoogaaDoorRows
import GoSem.ClaimSeven
namespace Go.Proofs.YtogcoedmagoogaaDoor
namespace Rows

/-- THE TIED CARD OF 'laws.FnExactFormatOrigin'. -/
def fnExactFormatOriginCard : Claim7 := { stood := { row := fnExactFormatOriginRow, standIns := [], harness := (true, "c8dc0300b280b7e6fc7c50bc1365c153f8d2fa0a4ec66f0f0eaf940dba1a227c"), looks := true }, kinds := [], alts := [], laidByText := true, laidKinds := [.data, .data, .data, .data, .pinned], laidTests := true, laidLooks := .later }
def FnExactFormatOriginCardSaid : Prop := Claim7.holds Tryd.pinned (.plain (OpenSpec.ofChange fnExactFormatOriginSpec)) fnExactFormatOriginCard

/-- THE TIED CARD OF 'laws.FnExactMakeAssertion'. -/
def fnExactMakeAssertionCard : Claim7 := { stood := { row := fnExactMakeAssertionRow, standIns := [], harness := (true, "c8dc0300b280b7e6fc7c50bc1365c153f8d2fa0a4ec66f0f0eaf940dba1a227c"), looks := true }, kinds := [], alts := [], laidByText := true, laidKinds := [.data, .data, .data, .data, .pinned], laidTests := true, laidLooks := .later }
def FnExactMakeAssertionCardSaid : Prop := Claim7.holds Tryd.pinned (.plain (OpenSpec.ofChange fnExactMakeAssertionSpec)) fnExactMakeAssertionCard

/-- THE TIED CARD OF 'laws.FnExactRelayAssertion'. -/
def fnExactRelayAssertionCard : Claim7 := { stood := { row := fnExactRelayAssertionRow, standIns := [], harness := (true, "c8dc0300b280b7e6fc7c50bc1365c153f8d2fa0a4ec66f0f0eaf940dba1a227c"), looks := true }, kinds := [], alts := [], laidByText := true, laidKinds := [.data, .data, .data, .data, .pinned], laidTests := true, laidLooks := .later }
def FnExactRelayAssertionCardSaid : Prop := Claim7.holds Tryd.pinned (.plain (OpenSpec.ofChange fnExactRelayAssertionSpec)) fnExactRelayAssertionCard

/-- THE TIED CARD OF 'laws.FnExactParseOrigin'. -/
def fnExactParseOriginCard : Claim7 := { stood := { row := fnExactParseOriginRow, standIns := [], harness := (true, "c8dc0300b280b7e6fc7c50bc1365c153f8d2fa0a4ec66f0f0eaf940dba1a227c"), looks := true }, kinds := [], alts := [], laidByText := true, laidKinds := [.data, .data, .data, .data, .sentinel, .sentinel, .pinned], laidTests := true, laidLooks := .later }
def FnExactParseOriginCardSaid : Prop := Claim7.holds Tryd.pinned (.plain (OpenSpec.ofChange fnExactParseOriginSpec)) fnExactParseOriginCard

/-- THE SECOND FORM's CARD OF 'laws.FnExactFormatOrigin'. -/
def fnExactFormatOriginUptoCard : Claim7 := { stood := { row := fnExactFormatOriginUptoRow, standIns := [], harness := (true, "c8dc0300b280b7e6fc7c50bc1365c153f8d2fa0a4ec66f0f0eaf940dba1a227c"), looks := true }, kinds := [], alts := [], laidByText := true, laidKinds := [.data, .data, .data, .data, .pinned], laidTests := true, laidLooks := .later }
def FnExactFormatOriginUptoCardSaid : Prop := Claim7.holds Tryd.pinned (.plain (OpenSpec.upto fnExactFormatOriginSpec)) fnExactFormatOriginUptoCard

/-- THE SECOND FORM's CARD OF 'laws.FnExactMakeAssertion'. -/
def fnExactMakeAssertionUptoCard : Claim7 := { stood := { row := fnExactMakeAssertionUptoRow, standIns := [], harness := (true, "c8dc0300b280b7e6fc7c50bc1365c153f8d2fa0a4ec66f0f0eaf940dba1a227c"), looks := true }, kinds := [], alts := [], laidByText := true, laidKinds := [.data, .data, .data, .data, .pinned], laidTests := true, laidLooks := .later }
def FnExactMakeAssertionUptoCardSaid : Prop := Claim7.holds Tryd.pinned (.plain (OpenSpec.upto fnExactMakeAssertionSpec)) fnExactMakeAssertionUptoCard

/-- THE SECOND FORM's CARD OF 'laws.FnExactRelayAssertion'. -/
def fnExactRelayAssertionUptoCard : Claim7 := { stood := { row := fnExactRelayAssertionUptoRow, standIns := [], harness := (true, "c8dc0300b280b7e6fc7c50bc1365c153f8d2fa0a4ec66f0f0eaf940dba1a227c"), looks := true }, kinds := [], alts := [], laidByText := true, laidKinds := [.data, .data, .data, .data, .pinned], laidTests := true, laidLooks := .later }
def FnExactRelayAssertionUptoCardSaid : Prop := Claim7.holds Tryd.pinned (.plain (OpenSpec.upto fnExactRelayAssertionSpec)) fnExactRelayAssertionUptoCard

/-- THE SECOND FORM's CARD OF 'laws.FnExactParseOrigin'. -/
def fnExactParseOriginUptoCard : Claim7 := { stood := { row := fnExactParseOriginUptoRow, standIns := [], harness := (true, "c8dc0300b280b7e6fc7c50bc1365c153f8d2fa0a4ec66f0f0eaf940dba1a227c"), looks := true }, kinds := [], alts := [], laidByText := true, laidKinds := [.data, .data, .data, .data, .sentinel, .sentinel, .pinned], laidTests := true, laidLooks := .later }
def FnExactParseOriginUptoCardSaid : Prop := Claim7.holds Tryd.pinned (.plain (OpenSpec.upto fnExactParseOriginSpec)) fnExactParseOriginUptoCard
end Rows
end Go.Proofs.YtogcoedmagoogaaDoor
