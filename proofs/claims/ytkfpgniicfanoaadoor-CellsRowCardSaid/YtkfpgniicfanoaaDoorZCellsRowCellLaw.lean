/- CellLaw, for the statement CellsRow: what it needs, no more. -/
import Derived.Test.YtkfpgniicfanoaaDoorZCellsRowCellC
import Derived.Test.YtkfpgniicfanoaaDoorZCellsRowCellE
import Derived.Test.YtkfpgniicfanoaaDoorZCellsRowFits
namespace Go.Proofs.YtkfpgniicfanoaaDoor.Law
open Go.RowKit Go.Proofs.YtkfpgniicfanoaaDoor.P Go.Proofs.YtkfpgniicfanoaaDoor.Pure Go.Proofs.YtkfpgniicfanoaaDoor.Fits Go.Proofs.YtkfpgniicfanoaaDoor.CellB Go.Proofs.YtkfpgniicfanoaaDoorW.PrintWords Go.Proofs.YtkfpgniicfanoaaDoorW.PrintLast Go.Proofs.YtkfpgniicfanoaaDoorW.PrintMore
set_option linter.unusedVariables false
theorem fit_of {x : S34} (h : fit34 x) : fit x := by
  have h0 := h.1
  simp [Lit.wf, IntKind.min, IntKind.max, IntKind.signed, IntKind.bits] at h0
  unfold fit
  omega
theorem fits_of {l : List S34} (h : l.length * 24 ≤ 140737488351232 ∧ l.length ≤ maxLen ∧ ∀ y ∈ l, fit34 y) : Fits l :=
  ⟨fun x hx => fit_of (h.2.2 x hx), by have := h.1; omega⟩
abbrev Row (l : List S34) : Prop := l.length * 24 ≤ 140737488351232 ∧ l.length ≤ maxLen ∧ ∀ y ∈ l, fit34 y
theorem CellsRow (a : Int) (l : List (List S34)) (wa : (Lit.int .i64 a).wf = true) (hl : l.length * 24 ≤ 140737488351232 ∧ l.length ≤ maxLen ∧ ∀ y ∈ l, Row y) : ∃ k, stackyardlaw04_CellsRow.f k a l = some true := (Pure.CellsRow a l (fun x hx => fits_of (hl.2.2 x hx)) (by have := hl.1; omega)).rounds
end Go.Proofs.YtkfpgniicfanoaaDoor.Law
