/-
  DERIVED. GIVEN WITH THE SEED: THE CARDS: each row of YthjbpjpcddegfaaGreatDoorRows.lean that lists a variable, with what it lists TIED to the program's text (the seventh form; the later family's looks); each row that meets fmt, with fmt's text TOLD by the authors' own Lean function (tested against real Go, not proved from fmt's source: count such statements apart). THE CARD IS WHAT COUNTS. Prove the row's statement (the work); the ties are given (YthjbpjpcddegfaaGreatDoorTie.lean); close each card by the builder's one call (the guide's Derived/Test/ToyasCard.lean, 'card_holds'). Laid BY PROGRAM, IN A SANDBOX (cutbox-door.mjs). By AI agents, Wed Nov 11 2026. No macro, syntax, notation, axiom, sorry.
-/
import Derived.Test.YthjbpjpcddegfaaGreatDoorRows
import GoSem.ClaimSeven
namespace Go.Proofs.YthjbpjpcddegfaaGreatDoor
namespace Rows

/-- THE TIED CARD OF 'stackyardlaw05.WeightRing'. -/
def weightRingCard : Claim7 := { stood := { row := weightRingRow, standIns := [], harness := (true, "bf0050afe7221b41839d2b7f7d42bdd84e5595522d64119c2096086d4be9314c"), looks := true }, kinds := [], alts := [], laidByText := true, laidKinds := [.data, .data, .data], laidTests := true, laidLooks := .later }
def WeightRingCardSaid : Prop := Claim7.holds Tryz.pinned (.plain (OpenSpec.ofChange weightRingSpec)) weightRingCard

/-- THE TIED CARD OF 'stackyardlaw05.WeightMakes'. -/
def weightMakesCard : Claim7 := { stood := { row := weightMakesRow, standIns := [], harness := (true, "bf0050afe7221b41839d2b7f7d42bdd84e5595522d64119c2096086d4be9314c"), looks := true }, kinds := [], alts := [], laidByText := true, laidKinds := [.data, .data, .data], laidTests := true, laidLooks := .later }
def WeightMakesCardSaid : Prop := Claim7.holds Tryz.pinned (.plain (OpenSpec.ofChange weightMakesSpec)) weightMakesCard

/-- THE TIED CARD OF 'stackyardlaw05.WeightStops'. -/
def weightStopsCard : Claim7 := { stood := { row := weightStopsRow, standIns := [], harness := (true, "bf0050afe7221b41839d2b7f7d42bdd84e5595522d64119c2096086d4be9314c"), looks := true }, kinds := [], alts := [], laidByText := true, laidKinds := [.data, .data, .data], laidTests := true, laidLooks := .later }
def WeightStopsCardSaid : Prop := Claim7.holds Tryz.pinned (.plain (OpenSpec.ofChange weightStopsSpec)) weightStopsCard

/-- THE TIED CARD OF 'stackyardlaw05.WeightSpaces'. -/
def weightSpacesCard : Claim7 := { stood := { row := weightSpacesRow, standIns := [], harness := (true, "bf0050afe7221b41839d2b7f7d42bdd84e5595522d64119c2096086d4be9314c"), looks := true }, kinds := [], alts := [], laidByText := true, laidKinds := [.data, .data, .data], laidTests := true, laidLooks := .later }
def WeightSpacesCardSaid : Prop := Claim7.holds Tryz.pinned (.plain (OpenSpec.ofChange weightSpacesSpec)) weightSpacesCard

/-- THE TIED CARD OF 'stackyardlaw05.WeightTexts'. -/
def weightTextsCard : Claim7 := { stood := { row := weightTextsRow, standIns := [], harness := (true, "bf0050afe7221b41839d2b7f7d42bdd84e5595522d64119c2096086d4be9314c"), looks := true }, kinds := [], alts := [], laidByText := true, laidKinds := [.data, .data, .data, .data, .sentinel, .sentinel, .pinned], laidTests := true, laidLooks := .later }
def WeightTextsCardSaid : Prop := Claim7.holds Tryz.pinned (.plain (OpenSpec.ofChange weightTextsSpec)) weightTextsCard

/-- THE TIED CARD OF 'stackyardlaw05.WeightBack'. -/
def weightBackCard : Claim7 := { stood := { row := weightBackRow, standIns := [], harness := (true, "bf0050afe7221b41839d2b7f7d42bdd84e5595522d64119c2096086d4be9314c"), looks := true }, kinds := [], alts := [], laidByText := true, laidKinds := [.data, .data, .data, .data, .sentinel, .sentinel, .pinned], laidTests := true, laidLooks := .later }
def WeightBackCardSaid : Prop := Claim7.holds Tryz.pinned (.plain (OpenSpec.ofChange weightBackSpec)) weightBackCard

/-- THE SECOND FORM's CARD OF 'stackyardlaw05.WeightRing'. -/
def weightRingUptoCard : Claim7 := { stood := { row := weightRingUptoRow, standIns := [], harness := (true, "bf0050afe7221b41839d2b7f7d42bdd84e5595522d64119c2096086d4be9314c"), looks := true }, kinds := [], alts := [], laidByText := true, laidKinds := [.data, .data, .data], laidTests := true, laidLooks := .later }
def WeightRingUptoCardSaid : Prop := Claim7.holds Tryz.pinned (.plain (OpenSpec.upto weightRingSpec)) weightRingUptoCard

/-- THE SECOND FORM's CARD OF 'stackyardlaw05.WeightMakes'. -/
def weightMakesUptoCard : Claim7 := { stood := { row := weightMakesUptoRow, standIns := [], harness := (true, "bf0050afe7221b41839d2b7f7d42bdd84e5595522d64119c2096086d4be9314c"), looks := true }, kinds := [], alts := [], laidByText := true, laidKinds := [.data, .data, .data], laidTests := true, laidLooks := .later }
def WeightMakesUptoCardSaid : Prop := Claim7.holds Tryz.pinned (.plain (OpenSpec.upto weightMakesSpec)) weightMakesUptoCard

/-- THE SECOND FORM's CARD OF 'stackyardlaw05.WeightStops'. -/
def weightStopsUptoCard : Claim7 := { stood := { row := weightStopsUptoRow, standIns := [], harness := (true, "bf0050afe7221b41839d2b7f7d42bdd84e5595522d64119c2096086d4be9314c"), looks := true }, kinds := [], alts := [], laidByText := true, laidKinds := [.data, .data, .data], laidTests := true, laidLooks := .later }
def WeightStopsUptoCardSaid : Prop := Claim7.holds Tryz.pinned (.plain (OpenSpec.upto weightStopsSpec)) weightStopsUptoCard

/-- THE SECOND FORM's CARD OF 'stackyardlaw05.WeightSpaces'. -/
def weightSpacesUptoCard : Claim7 := { stood := { row := weightSpacesUptoRow, standIns := [], harness := (true, "bf0050afe7221b41839d2b7f7d42bdd84e5595522d64119c2096086d4be9314c"), looks := true }, kinds := [], alts := [], laidByText := true, laidKinds := [.data, .data, .data], laidTests := true, laidLooks := .later }
def WeightSpacesUptoCardSaid : Prop := Claim7.holds Tryz.pinned (.plain (OpenSpec.upto weightSpacesSpec)) weightSpacesUptoCard

/-- THE SECOND FORM's CARD OF 'stackyardlaw05.WeightTexts'. -/
def weightTextsUptoCard : Claim7 := { stood := { row := weightTextsUptoRow, standIns := [], harness := (true, "bf0050afe7221b41839d2b7f7d42bdd84e5595522d64119c2096086d4be9314c"), looks := true }, kinds := [], alts := [], laidByText := true, laidKinds := [.data, .data, .data, .data, .sentinel, .sentinel, .pinned], laidTests := true, laidLooks := .later }
def WeightTextsUptoCardSaid : Prop := Claim7.holds Tryz.pinned (.plain (OpenSpec.upto weightTextsSpec)) weightTextsUptoCard

/-- THE SECOND FORM's CARD OF 'stackyardlaw05.WeightBack'. -/
def weightBackUptoCard : Claim7 := { stood := { row := weightBackUptoRow, standIns := [], harness := (true, "bf0050afe7221b41839d2b7f7d42bdd84e5595522d64119c2096086d4be9314c"), looks := true }, kinds := [], alts := [], laidByText := true, laidKinds := [.data, .data, .data, .data, .sentinel, .sentinel, .pinned], laidTests := true, laidLooks := .later }
def WeightBackUptoCardSaid : Prop := Claim7.holds Tryz.pinned (.plain (OpenSpec.upto weightBackSpec)) weightBackUptoCard
end Rows
end Go.Proofs.YthjbpjpcddegfaaGreatDoor
