/-
  DERIVED. GIVEN WITH THE SEED: THE CARDS: each row of YtgjeoioneoncnaaDoorRows.lean that lists a variable, with what it lists TIED to the program's text (the seventh form; the later family's looks); each row that meets fmt, with fmt's text TOLD by the authors' own Lean function (tested against real Go, not proved from fmt's source: count such statements apart). THE CARD IS WHAT COUNTS. Prove the row's statement (the work); the ties are given (YtgjeoioneoncnaaDoorTie.lean); close each card by the builder's one call (the guide's Derived/Test/ToyasCard.lean, 'card_holds'). Laid BY PROGRAM, IN A SANDBOX (cutbox-door.mjs). By AI agents, Wed Nov 11 2026. No macro, syntax, notation, axiom, sorry.
-/
import Derived.Test.YtgjeoioneoncnaaDoorRows
import GoSem.ClaimSeven
namespace Go.Proofs.YtgjeoioneoncnaaDoor
namespace Rows

/-- THE TIED CARD OF 'stackyardlaw02.CostLeasts'. -/
def costLeastsCard : Claim7 := { stood := { row := costLeastsRow, standIns := [], harness := (true, "9fbbaab1e2f4c63bb41bfe3055cdac3c94522635c7b3fb85935d716c7f6b3ba6"), looks := false }, kinds := [], alts := [], laidByText := true, laidKinds := [.data, .data, .data], laidTests := true, laidLooks := .later }
def CostLeastsCardSaid : Prop := Claim7.holds Tryd.pinned (.plain (OpenSpec.ofChange costLeastsSpec)) costLeastsCard

/-- THE TIED CARD OF 'stackyardlaw02.CostSemiring'. -/
def costSemiringCard : Claim7 := { stood := { row := costSemiringRow, standIns := [], harness := (true, "9fbbaab1e2f4c63bb41bfe3055cdac3c94522635c7b3fb85935d716c7f6b3ba6"), looks := false }, kinds := [], alts := [], laidByText := true, laidKinds := [.data, .data, .data], laidTests := true, laidLooks := .later }
def CostSemiringCardSaid : Prop := Claim7.holds Tryd.pinned (.plain (OpenSpec.ofChange costSemiringSpec)) costSemiringCard

/-- THE TIED CARD OF 'stackyardlaw02.CostOrder'. -/
def costOrderCard : Claim7 := { stood := { row := costOrderRow, standIns := [], harness := (true, "9fbbaab1e2f4c63bb41bfe3055cdac3c94522635c7b3fb85935d716c7f6b3ba6"), looks := false }, kinds := [], alts := [], laidByText := true, laidKinds := [.data, .data, .data], laidTests := true, laidLooks := .later }
def CostOrderCardSaid : Prop := Claim7.holds Tryd.pinned (.plain (OpenSpec.ofChange costOrderSpec)) costOrderCard

/-- THE TIED CARD OF 'stackyardlaw02.CostRow'. -/
def costRowCard : Claim7 := { stood := { row := costRowRow, standIns := [], harness := (true, "9fbbaab1e2f4c63bb41bfe3055cdac3c94522635c7b3fb85935d716c7f6b3ba6"), looks := false }, kinds := [], alts := [], laidByText := true, laidKinds := [.data, .data, .data], laidTests := true, laidLooks := .later }
def CostRowCardSaid : Prop := Claim7.holds Tryd.pinned (.plain (OpenSpec.ofChange costRowSpec)) costRowCard

/-- THE TIED CARD OF 'stackyardlaw02.CostChecks'. -/
def costChecksCard : Claim7 := { stood := { row := costChecksRow, standIns := [], harness := (true, "9fbbaab1e2f4c63bb41bfe3055cdac3c94522635c7b3fb85935d716c7f6b3ba6"), looks := false }, kinds := [], alts := [], laidByText := true, laidKinds := [.data, .data, .data], laidTests := true, laidLooks := .later }
def CostChecksCardSaid : Prop := Claim7.holds Tryd.pinned (.plain (OpenSpec.ofChange costChecksSpec)) costChecksCard

/-- THE TIED CARD OF 'stackyardlaw02.CostTexts'. -/
def costTextsCard : Claim7 := { stood := { row := costTextsRow, standIns := [], harness := (true, "9fbbaab1e2f4c63bb41bfe3055cdac3c94522635c7b3fb85935d716c7f6b3ba6"), looks := false }, kinds := [], alts := [], laidByText := true, laidKinds := [.data, .data, .data], laidTests := true, laidLooks := .later }
def CostTextsCardSaid : Prop := Claim7.holds Tryd.pinned (.plain (OpenSpec.ofChange costTextsSpec)) costTextsCard

/-- THE TIED CARD OF 'stackyardlaw02.CostBack'. -/
def costBackCard : Claim7 := { stood := { row := costBackRow, standIns := [], harness := (true, "9fbbaab1e2f4c63bb41bfe3055cdac3c94522635c7b3fb85935d716c7f6b3ba6"), looks := false }, kinds := [], alts := [], laidByText := true, laidKinds := [.data, .data, .data], laidTests := true, laidLooks := .later }
def CostBackCardSaid : Prop := Claim7.holds Tryd.pinned (.plain (OpenSpec.ofChange costBackSpec)) costBackCard

/-- THE SECOND FORM's CARD OF 'stackyardlaw02.CostLeasts'. -/
def costLeastsUptoCard : Claim7 := { stood := { row := costLeastsUptoRow, standIns := [], harness := (true, "9fbbaab1e2f4c63bb41bfe3055cdac3c94522635c7b3fb85935d716c7f6b3ba6"), looks := false }, kinds := [], alts := [], laidByText := true, laidKinds := [.data, .data, .data], laidTests := true, laidLooks := .later }
def CostLeastsUptoCardSaid : Prop := Claim7.holds Tryd.pinned (.plain (OpenSpec.upto costLeastsSpec)) costLeastsUptoCard

/-- THE SECOND FORM's CARD OF 'stackyardlaw02.CostSemiring'. -/
def costSemiringUptoCard : Claim7 := { stood := { row := costSemiringUptoRow, standIns := [], harness := (true, "9fbbaab1e2f4c63bb41bfe3055cdac3c94522635c7b3fb85935d716c7f6b3ba6"), looks := false }, kinds := [], alts := [], laidByText := true, laidKinds := [.data, .data, .data], laidTests := true, laidLooks := .later }
def CostSemiringUptoCardSaid : Prop := Claim7.holds Tryd.pinned (.plain (OpenSpec.upto costSemiringSpec)) costSemiringUptoCard

/-- THE SECOND FORM's CARD OF 'stackyardlaw02.CostOrder'. -/
def costOrderUptoCard : Claim7 := { stood := { row := costOrderUptoRow, standIns := [], harness := (true, "9fbbaab1e2f4c63bb41bfe3055cdac3c94522635c7b3fb85935d716c7f6b3ba6"), looks := false }, kinds := [], alts := [], laidByText := true, laidKinds := [.data, .data, .data], laidTests := true, laidLooks := .later }
def CostOrderUptoCardSaid : Prop := Claim7.holds Tryd.pinned (.plain (OpenSpec.upto costOrderSpec)) costOrderUptoCard

/-- THE SECOND FORM's CARD OF 'stackyardlaw02.CostRow'. -/
def costRowUptoCard : Claim7 := { stood := { row := costRowUptoRow, standIns := [], harness := (true, "9fbbaab1e2f4c63bb41bfe3055cdac3c94522635c7b3fb85935d716c7f6b3ba6"), looks := false }, kinds := [], alts := [], laidByText := true, laidKinds := [.data, .data, .data], laidTests := true, laidLooks := .later }
def CostRowUptoCardSaid : Prop := Claim7.holds Tryd.pinned (.plain (OpenSpec.upto costRowSpec)) costRowUptoCard

/-- THE SECOND FORM's CARD OF 'stackyardlaw02.CostChecks'. -/
def costChecksUptoCard : Claim7 := { stood := { row := costChecksUptoRow, standIns := [], harness := (true, "9fbbaab1e2f4c63bb41bfe3055cdac3c94522635c7b3fb85935d716c7f6b3ba6"), looks := false }, kinds := [], alts := [], laidByText := true, laidKinds := [.data, .data, .data], laidTests := true, laidLooks := .later }
def CostChecksUptoCardSaid : Prop := Claim7.holds Tryd.pinned (.plain (OpenSpec.upto costChecksSpec)) costChecksUptoCard

/-- THE SECOND FORM's CARD OF 'stackyardlaw02.CostTexts'. -/
def costTextsUptoCard : Claim7 := { stood := { row := costTextsUptoRow, standIns := [], harness := (true, "9fbbaab1e2f4c63bb41bfe3055cdac3c94522635c7b3fb85935d716c7f6b3ba6"), looks := false }, kinds := [], alts := [], laidByText := true, laidKinds := [.data, .data, .data], laidTests := true, laidLooks := .later }
def CostTextsUptoCardSaid : Prop := Claim7.holds Tryd.pinned (.plain (OpenSpec.upto costTextsSpec)) costTextsUptoCard

/-- THE SECOND FORM's CARD OF 'stackyardlaw02.CostBack'. -/
def costBackUptoCard : Claim7 := { stood := { row := costBackUptoRow, standIns := [], harness := (true, "9fbbaab1e2f4c63bb41bfe3055cdac3c94522635c7b3fb85935d716c7f6b3ba6"), looks := false }, kinds := [], alts := [], laidByText := true, laidKinds := [.data, .data, .data], laidTests := true, laidLooks := .later }
def CostBackUptoCardSaid : Prop := Claim7.holds Tryd.pinned (.plain (OpenSpec.upto costBackSpec)) costBackUptoCard
end Rows
end Go.Proofs.YtgjeoioneoncnaaDoor
