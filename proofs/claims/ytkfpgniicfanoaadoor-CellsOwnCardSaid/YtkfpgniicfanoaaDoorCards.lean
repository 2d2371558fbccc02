/-
  DERIVED. GIVEN WITH THE SEED: THE CARDS: each row of YtkfpgniicfanoaaDoorRows.lean that lists a variable, with what it lists TIED to the program's text (the seventh form; the later family's looks); each row that meets fmt, with fmt's text TOLD by the authors' own Lean function (tested against real Go, not proved from fmt's source: count such statements apart). THE CARD IS WHAT COUNTS. Prove the row's statement (the work); the ties are given (YtkfpgniicfanoaaDoorTie.lean); close each card by the builder's one call (the guide's Derived/Test/ToyasCard.lean, 'card_holds'). Laid BY PROGRAM, IN A SANDBOX (cutbox-door.mjs). By AI agents, Wed Nov 11 2026. No macro, syntax, notation, axiom, sorry.
-/
import Derived.Test.YtkfpgniicfanoaaDoorRows
import GoSem.ClaimSeven
namespace Go.Proofs.YtkfpgniicfanoaaDoor
namespace Rows

/-- THE TIED CARD OF 'stackyardlaw04.CellsThen'. -/
def cellsThenCard : Claim7 := { stood := { row := cellsThenRow, standIns := [], harness := (true, "4bc4a506f1c27103d81ef55d5c7d56aaad426953041764780b659b60de2566c1"), looks := false }, kinds := [], alts := [], laidByText := true, laidKinds := [.data, .data, .data], laidTests := true, laidLooks := .later }
def CellsThenCardSaid : Prop := Claim7.holds Tryd.pinned (.plain (OpenSpec.ofChange cellsThenSpec)) cellsThenCard

/-- THE TIED CARD OF 'stackyardlaw04.CellsOver'. -/
def cellsOverCard : Claim7 := { stood := { row := cellsOverRow, standIns := [], harness := (true, "4bc4a506f1c27103d81ef55d5c7d56aaad426953041764780b659b60de2566c1"), looks := false }, kinds := [], alts := [], laidByText := true, laidKinds := [.data, .data, .data], laidTests := true, laidLooks := .later }
def CellsOverCardSaid : Prop := Claim7.holds Tryd.pinned (.plain (OpenSpec.ofChange cellsOverSpec)) cellsOverCard

/-- THE TIED CARD OF 'stackyardlaw04.CellsOwn'. -/
def cellsOwnCard : Claim7 := { stood := { row := cellsOwnRow, standIns := [], harness := (true, "4bc4a506f1c27103d81ef55d5c7d56aaad426953041764780b659b60de2566c1"), looks := false }, kinds := [], alts := [], laidByText := true, laidKinds := [.data, .data, .data], laidTests := true, laidLooks := .later }
def CellsOwnCardSaid : Prop := Claim7.holds Tryd.pinned (.plain (OpenSpec.ofChange cellsOwnSpec)) cellsOwnCard

/-- THE TIED CARD OF 'stackyardlaw04.CellsChecks'. -/
def cellsChecksCard : Claim7 := { stood := { row := cellsChecksRow, standIns := [], harness := (true, "4bc4a506f1c27103d81ef55d5c7d56aaad426953041764780b659b60de2566c1"), looks := false }, kinds := [], alts := [], laidByText := true, laidKinds := [.data, .data, .data], laidTests := true, laidLooks := .later }
def CellsChecksCardSaid : Prop := Claim7.holds Tryd.pinned (.plain (OpenSpec.ofChange cellsChecksSpec)) cellsChecksCard

/-- THE TIED CARD OF 'stackyardlaw04.CellsMakes'. -/
def cellsMakesCard : Claim7 := { stood := { row := cellsMakesRow, standIns := [], harness := (true, "4bc4a506f1c27103d81ef55d5c7d56aaad426953041764780b659b60de2566c1"), looks := false }, kinds := [], alts := [], laidByText := true, laidKinds := [.data, .data, .data], laidTests := true, laidLooks := .later }
def CellsMakesCardSaid : Prop := Claim7.holds Tryd.pinned (.plain (OpenSpec.ofChange cellsMakesSpec)) cellsMakesCard

/-- THE TIED CARD OF 'stackyardlaw04.CellsAlgebra'. -/
def cellsAlgebraCard : Claim7 := { stood := { row := cellsAlgebraRow, standIns := [], harness := (true, "4bc4a506f1c27103d81ef55d5c7d56aaad426953041764780b659b60de2566c1"), looks := false }, kinds := [], alts := [], laidByText := true, laidKinds := [.data, .data, .data], laidTests := true, laidLooks := .later }
def CellsAlgebraCardSaid : Prop := Claim7.holds Tryd.pinned (.plain (OpenSpec.ofChange cellsAlgebraSpec)) cellsAlgebraCard

/-- THE TIED CARD OF 'stackyardlaw04.CellsBoth'. -/
def cellsBothCard : Claim7 := { stood := { row := cellsBothRow, standIns := [], harness := (true, "4bc4a506f1c27103d81ef55d5c7d56aaad426953041764780b659b60de2566c1"), looks := false }, kinds := [], alts := [], laidByText := true, laidKinds := [.data, .data, .data], laidTests := true, laidLooks := .later }
def CellsBothCardSaid : Prop := Claim7.holds Tryd.pinned (.plain (OpenSpec.ofChange cellsBothSpec)) cellsBothCard

/-- THE TIED CARD OF 'stackyardlaw04.CellsValues'. -/
def cellsValuesCard : Claim7 := { stood := { row := cellsValuesRow, standIns := [], harness := (true, "4bc4a506f1c27103d81ef55d5c7d56aaad426953041764780b659b60de2566c1"), looks := false }, kinds := [], alts := [], laidByText := true, laidKinds := [.data, .data, .data], laidTests := true, laidLooks := .later }
def CellsValuesCardSaid : Prop := Claim7.holds Tryd.pinned (.plain (OpenSpec.ofChange cellsValuesSpec)) cellsValuesCard

/-- THE TIED CARD OF 'stackyardlaw04.CellsRow'. -/
def cellsRowCard : Claim7 := { stood := { row := cellsRowRow, standIns := [], harness := (true, "4bc4a506f1c27103d81ef55d5c7d56aaad426953041764780b659b60de2566c1"), looks := false }, kinds := [], alts := [], laidByText := true, laidKinds := [.data, .data, .data], laidTests := true, laidLooks := .later }
def CellsRowCardSaid : Prop := Claim7.holds Tryd.pinned (.plain (OpenSpec.ofChange cellsRowSpec)) cellsRowCard

/-- THE SECOND FORM's CARD OF 'stackyardlaw04.CellsThen'. -/
def cellsThenUptoCard : Claim7 := { stood := { row := cellsThenUptoRow, standIns := [], harness := (true, "4bc4a506f1c27103d81ef55d5c7d56aaad426953041764780b659b60de2566c1"), looks := false }, kinds := [], alts := [], laidByText := true, laidKinds := [.data, .data, .data], laidTests := true, laidLooks := .later }
def CellsThenUptoCardSaid : Prop := Claim7.holds Tryd.pinned (.plain (OpenSpec.upto cellsThenSpec)) cellsThenUptoCard

/-- THE SECOND FORM's CARD OF 'stackyardlaw04.CellsOver'. -/
def cellsOverUptoCard : Claim7 := { stood := { row := cellsOverUptoRow, standIns := [], harness := (true, "4bc4a506f1c27103d81ef55d5c7d56aaad426953041764780b659b60de2566c1"), looks := false }, kinds := [], alts := [], laidByText := true, laidKinds := [.data, .data, .data], laidTests := true, laidLooks := .later }
def CellsOverUptoCardSaid : Prop := Claim7.holds Tryd.pinned (.plain (OpenSpec.upto cellsOverSpec)) cellsOverUptoCard

/-- THE SECOND FORM's CARD OF 'stackyardlaw04.CellsOwn'. -/
def cellsOwnUptoCard : Claim7 := { stood := { row := cellsOwnUptoRow, standIns := [], harness := (true, "4bc4a506f1c27103d81ef55d5c7d56aaad426953041764780b659b60de2566c1"), looks := false }, kinds := [], alts := [], laidByText := true, laidKinds := [.data, .data, .data], laidTests := true, laidLooks := .later }
def CellsOwnUptoCardSaid : Prop := Claim7.holds Tryd.pinned (.plain (OpenSpec.upto cellsOwnSpec)) cellsOwnUptoCard

/-- THE SECOND FORM's CARD OF 'stackyardlaw04.CellsChecks'. -/
def cellsChecksUptoCard : Claim7 := { stood := { row := cellsChecksUptoRow, standIns := [], harness := (true, "4bc4a506f1c27103d81ef55d5c7d56aaad426953041764780b659b60de2566c1"), looks := false }, kinds := [], alts := [], laidByText := true, laidKinds := [.data, .data, .data], laidTests := true, laidLooks := .later }
def CellsChecksUptoCardSaid : Prop := Claim7.holds Tryd.pinned (.plain (OpenSpec.upto cellsChecksSpec)) cellsChecksUptoCard

/-- THE SECOND FORM's CARD OF 'stackyardlaw04.CellsMakes'. -/
def cellsMakesUptoCard : Claim7 := { stood := { row := cellsMakesUptoRow, standIns := [], harness := (true, "4bc4a506f1c27103d81ef55d5c7d56aaad426953041764780b659b60de2566c1"), looks := false }, kinds := [], alts := [], laidByText := true, laidKinds := [.data, .data, .data], laidTests := true, laidLooks := .later }
def CellsMakesUptoCardSaid : Prop := Claim7.holds Tryd.pinned (.plain (OpenSpec.upto cellsMakesSpec)) cellsMakesUptoCard

/-- THE SECOND FORM's CARD OF 'stackyardlaw04.CellsAlgebra'. -/
def cellsAlgebraUptoCard : Claim7 := { stood := { row := cellsAlgebraUptoRow, standIns := [], harness := (true, "4bc4a506f1c27103d81ef55d5c7d56aaad426953041764780b659b60de2566c1"), looks := false }, kinds := [], alts := [], laidByText := true, laidKinds := [.data, .data, .data], laidTests := true, laidLooks := .later }
def CellsAlgebraUptoCardSaid : Prop := Claim7.holds Tryd.pinned (.plain (OpenSpec.upto cellsAlgebraSpec)) cellsAlgebraUptoCard

/-- THE SECOND FORM's CARD OF 'stackyardlaw04.CellsBoth'. -/
def cellsBothUptoCard : Claim7 := { stood := { row := cellsBothUptoRow, standIns := [], harness := (true, "4bc4a506f1c27103d81ef55d5c7d56aaad426953041764780b659b60de2566c1"), looks := false }, kinds := [], alts := [], laidByText := true, laidKinds := [.data, .data, .data], laidTests := true, laidLooks := .later }
def CellsBothUptoCardSaid : Prop := Claim7.holds Tryd.pinned (.plain (OpenSpec.upto cellsBothSpec)) cellsBothUptoCard

/-- THE SECOND FORM's CARD OF 'stackyardlaw04.CellsValues'. -/
def cellsValuesUptoCard : Claim7 := { stood := { row := cellsValuesUptoRow, standIns := [], harness := (true, "4bc4a506f1c27103d81ef55d5c7d56aaad426953041764780b659b60de2566c1"), looks := false }, kinds := [], alts := [], laidByText := true, laidKinds := [.data, .data, .data], laidTests := true, laidLooks := .later }
def CellsValuesUptoCardSaid : Prop := Claim7.holds Tryd.pinned (.plain (OpenSpec.upto cellsValuesSpec)) cellsValuesUptoCard

/-- THE SECOND FORM's CARD OF 'stackyardlaw04.CellsRow'. -/
def cellsRowUptoCard : Claim7 := { stood := { row := cellsRowUptoRow, standIns := [], harness := (true, "4bc4a506f1c27103d81ef55d5c7d56aaad426953041764780b659b60de2566c1"), looks := false }, kinds := [], alts := [], laidByText := true, laidKinds := [.data, .data, .data], laidTests := true, laidLooks := .later }
def CellsRowUptoCardSaid : Prop := Claim7.holds Tryd.pinned (.plain (OpenSpec.upto cellsRowSpec)) cellsRowUptoCard
end Rows
end Go.Proofs.YtkfpgniicfanoaaDoor
