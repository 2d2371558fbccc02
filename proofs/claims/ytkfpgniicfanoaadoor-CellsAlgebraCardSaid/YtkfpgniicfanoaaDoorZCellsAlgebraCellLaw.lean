/- CellLaw, for the statement CellsAlgebra: what it needs, no more. -/
import Derived.Test.YtkfpgniicfanoaaDoorZCellsAlgebraCellD
import Derived.Test.YtkfpgniicfanoaaDoorZCellsAlgebraCellE
import Derived.Test.YtkfpgniicfanoaaDoorZCellsAlgebraCellF
import Derived.Test.YtkfpgniicfanoaaDoorZCellsAlgebraFits
namespace Go.Proofs.YtkfpgniicfanoaaDoor.CellB
end Go.Proofs.YtkfpgniicfanoaaDoor.CellB
namespace Go.Proofs.YtkfpgniicfanoaaDoor.Fits
end Go.Proofs.YtkfpgniicfanoaaDoor.Fits
namespace Go.Proofs.YtkfpgniicfanoaaDoor.P
end Go.Proofs.YtkfpgniicfanoaaDoor.P
namespace Go.Proofs.YtkfpgniicfanoaaDoor.Pure
end Go.Proofs.YtkfpgniicfanoaaDoor.Pure
namespace Go.Proofs.YtkfpgniicfanoaaDoor.Law
open Go.RowKit Go.Proofs.YtkfpgniicfanoaaDoor.P Go.Proofs.YtkfpgniicfanoaaDoor.Pure Go.Proofs.YtkfpgniicfanoaaDoor.Fits Go.Proofs.YtkfpgniicfanoaaDoor.CellB Go.Proofs.YtkfpgniicfanoaaDoorW.PrintWords Go.Proofs.YtkfpgniicfanoaaDoorW.PrintLast Go.Proofs.YtkfpgniicfanoaaDoorW.PrintMore
set_option linter.unusedVariables false
theorem fit_of {x : S34} (h : fit34 x) : fit x := by
  have h0 := h.1
  simp [Lit.wf, IntKind.min, IntKind.max, IntKind.signed, IntKind.bits] at h0
  unfold fit
  omega
theorem fits_of {l : List S34} (h : l.length * 24 ≤ 140737488351232 ∧ l.length ≤ maxLen ∧ ∀ y ∈ l, fit34 y) : Fits l :=
  ⟨fun x hx => fit_of (h.2.2 x hx), by have := h.1; omega⟩
abbrev Row (l : List S34) : Prop := l.length * 24 ≤ 140737488351232 ∧ l.length ≤ maxLen ∧ ∀ y ∈ l, fit34 y
theorem CellsAlgebra (a : Int) (l m n : List S34) (wa : (Lit.int .i64 a).wf = true) (hl : Row l) (hm : Row m) (hn : Row n) : ∃ k, stackyardlaw04_CellsAlgebra.f k a l m n = some true := (Pure.CellsAlgebra a l m n (fits_of hl) (fits_of hm) (fits_of hn)).rounds
end Go.Proofs.YtkfpgniicfanoaaDoor.Law
