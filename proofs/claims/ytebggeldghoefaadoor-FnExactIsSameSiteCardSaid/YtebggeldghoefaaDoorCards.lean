/-
  DERIVED. GIVEN WITH THE SEED: THE CARDS: each row of YtebggeldghoefaaDoorRows.lean that lists a variable, with what it lists TIED to the program's text (the seventh form; the later family's looks); each row that meets fmt, with fmt's text TOLD by the authors' own Lean function (tested against real Go, not proved from fmt's source: count such statements apart). THE CARD IS WHAT COUNTS. Prove the row's statement (the work); the ties are given (YtebggeldghoefaaDoorTie.lean); close each card by the builder's one call (the guide's Derived/Test/ToyasCard.lean, 'card_holds'). Laid BY PROGRAM, IN A SANDBOX (cutbox-door.mjs). By AI agents, Wed Nov 11 2026. No macro, syntax, notation, axiom, sorry.
-/
import Derived.Test.YtebggeldghoefaaDoorRows
import GoSem.ClaimSeven
namespace Go.Proofs.YtebggeldghoefaaDoor
namespace Rows

/-- THE TIED CARD OF 'laws.FnExactIsHost'. -/
def fnExactIsHostCard : Claim7 := { stood := { row := fnExactIsHostRow, standIns := [], harness := (true, "fa6b03716866c957b9e5810a36f2933921a27bfc12ac56370948081d3610b8c2"), looks := false }, kinds := [], alts := [], laidByText := true, laidKinds := [.data, .pinned], laidTests := true, laidLooks := .later }
def FnExactIsHostCardSaid : Prop := Claim7.holds Tryd.pinned (.plain (OpenSpec.ofChange fnExactIsHostSpec)) fnExactIsHostCard

/-- THE TIED CARD OF 'laws.FnExactIsOrigin'. -/
def fnExactIsOriginCard : Claim7 := { stood := { row := fnExactIsOriginRow, standIns := [], harness := (true, "fa6b03716866c957b9e5810a36f2933921a27bfc12ac56370948081d3610b8c2"), looks := false }, kinds := [], alts := [], laidByText := true, laidKinds := [.data, .pinned], laidTests := true, laidLooks := .later }
def FnExactIsOriginCardSaid : Prop := Claim7.holds Tryd.pinned (.plain (OpenSpec.ofChange fnExactIsOriginSpec)) fnExactIsOriginCard

/-- THE TIED CARD OF 'laws.FnExactMayUse'. -/
def fnExactMayUseCard : Claim7 := { stood := { row := fnExactMayUseRow, standIns := [], harness := (true, "fa6b03716866c957b9e5810a36f2933921a27bfc12ac56370948081d3610b8c2"), looks := false }, kinds := [], alts := [], laidByText := true, laidKinds := [.data, .pinned], laidTests := true, laidLooks := .later }
def FnExactMayUseCardSaid : Prop := Claim7.holds Tryd.pinned (.plain (OpenSpec.ofChange fnExactMayUseSpec)) fnExactMayUseCard

/-- THE TIED CARD OF 'laws.FnExactRegistrable'. -/
def fnExactRegistrableCard : Claim7 := { stood := { row := fnExactRegistrableRow, standIns := [], harness := (true, "fa6b03716866c957b9e5810a36f2933921a27bfc12ac56370948081d3610b8c2"), looks := false }, kinds := [], alts := [], laidByText := true, laidKinds := [.data, .pinned], laidTests := true, laidLooks := .later }
def FnExactRegistrableCardSaid : Prop := Claim7.holds Tryd.pinned (.plain (OpenSpec.ofChange fnExactRegistrableSpec)) fnExactRegistrableCard

/-- THE TIED CARD OF 'laws.FnExactIsSameSite'. -/
def fnExactIsSameSiteCard : Claim7 := { stood := { row := fnExactIsSameSiteRow, standIns := [], harness := (true, "fa6b03716866c957b9e5810a36f2933921a27bfc12ac56370948081d3610b8c2"), looks := false }, kinds := [], alts := [], laidByText := true, laidKinds := [.data, .pinned], laidTests := true, laidLooks := .later }
def FnExactIsSameSiteCardSaid : Prop := Claim7.holds Tryd.pinned (.plain (OpenSpec.ofChange fnExactIsSameSiteSpec)) fnExactIsSameSiteCard

/-- THE SECOND FORM's CARD OF 'laws.FnExactIsHost'. -/
def fnExactIsHostUptoCard : Claim7 := { stood := { row := fnExactIsHostUptoRow, standIns := [], harness := (true, "fa6b03716866c957b9e5810a36f2933921a27bfc12ac56370948081d3610b8c2"), looks := false }, kinds := [], alts := [], laidByText := true, laidKinds := [.data, .pinned], laidTests := true, laidLooks := .later }
def FnExactIsHostUptoCardSaid : Prop := Claim7.holds Tryd.pinned (.plain (OpenSpec.upto fnExactIsHostSpec)) fnExactIsHostUptoCard

/-- THE SECOND FORM's CARD OF 'laws.FnExactIsOrigin'. -/
def fnExactIsOriginUptoCard : Claim7 := { stood := { row := fnExactIsOriginUptoRow, standIns := [], harness := (true, "fa6b03716866c957b9e5810a36f2933921a27bfc12ac56370948081d3610b8c2"), looks := false }, kinds := [], alts := [], laidByText := true, laidKinds := [.data, .pinned], laidTests := true, laidLooks := .later }
def FnExactIsOriginUptoCardSaid : Prop := Claim7.holds Tryd.pinned (.plain (OpenSpec.upto fnExactIsOriginSpec)) fnExactIsOriginUptoCard

/-- THE SECOND FORM's CARD OF 'laws.FnExactMayUse'. -/
def fnExactMayUseUptoCard : Claim7 := { stood := { row := fnExactMayUseUptoRow, standIns := [], harness := (true, "fa6b03716866c957b9e5810a36f2933921a27bfc12ac56370948081d3610b8c2"), looks := false }, kinds := [], alts := [], laidByText := true, laidKinds := [.data, .pinned], laidTests := true, laidLooks := .later }
def FnExactMayUseUptoCardSaid : Prop := Claim7.holds Tryd.pinned (.plain (OpenSpec.upto fnExactMayUseSpec)) fnExactMayUseUptoCard

/-- THE SECOND FORM's CARD OF 'laws.FnExactRegistrable'. -/
def fnExactRegistrableUptoCard : Claim7 := { stood := { row := fnExactRegistrableUptoRow, standIns := [], harness := (true, "fa6b03716866c957b9e5810a36f2933921a27bfc12ac56370948081d3610b8c2"), looks := false }, kinds := [], alts := [], laidByText := true, laidKinds := [.data, .pinned], laidTests := true, laidLooks := .later }
def FnExactRegistrableUptoCardSaid : Prop := Claim7.holds Tryd.pinned (.plain (OpenSpec.upto fnExactRegistrableSpec)) fnExactRegistrableUptoCard

/-- THE SECOND FORM's CARD OF 'laws.FnExactIsSameSite'. -/
def fnExactIsSameSiteUptoCard : Claim7 := { stood := { row := fnExactIsSameSiteUptoRow, standIns := [], harness := (true, "fa6b03716866c957b9e5810a36f2933921a27bfc12ac56370948081d3610b8c2"), looks := false }, kinds := [], alts := [], laidByText := true, laidKinds := [.data, .pinned], laidTests := true, laidLooks := .later }
def FnExactIsSameSiteUptoCardSaid : Prop := Claim7.holds Tryd.pinned (.plain (OpenSpec.upto fnExactIsSameSiteSpec)) fnExactIsSameSiteUptoCard
end Rows
end Go.Proofs.YtebggeldghoefaaDoor
