/- CellLaw, for the statement CellsOwn: what it needs, no more. -/
import Derived.Test.YtkfpgniicfanoaaDoorZCellsOwnCellC
import Derived.Test.YtkfpgniicfanoaaDoorZCellsOwnCellE
import Derived.Test.YtkfpgniicfanoaaDoorZCellsOwnCellG
import Derived.Test.YtkfpgniicfanoaaDoorZCellsOwnFits
namespace Go.Proofs.YtkfpgniicfanoaaDoor.CellB
end Go.Proofs.YtkfpgniicfanoaaDoor.CellB
namespace Go.Proofs.YtkfpgniicfanoaaDoor.Fits
end Go.Proofs.YtkfpgniicfanoaaDoor.Fits
namespace Go.Proofs.YtkfpgniicfanoaaDoor.P
end Go.Proofs.YtkfpgniicfanoaaDoor.P
namespace Go.Proofs.YtkfpgniicfanoaaDoor.Pure
end Go.Proofs.YtkfpgniicfanoaaDoor.Pure
namespace Go.Proofs.YtkfpgniicfanoaaDoor.Law
open Go.RowKit Go.Proofs.YtkfpgniicfanoaaDoor.P Go.Proofs.YtkfpgniicfanoaaDoor.Pure Go.Proofs.YtkfpgniicfanoaaDoor.Fits Go.Proofs.YtkfpgniicfanoaaDoor.CellB Go.Proofs.YtkfpgniicfanoaaDoorW.PrintWords Go.Proofs.YtkfpgniicfanoaaDoorW.PrintLast Go.Proofs.YtkfpgniicfanoaaDoorW.PrintMore
set_option linter.unusedVariables false
theorem fit_of {x : S34} (h : fit34 x) : fit x := by
  have h0 := h.1
  simp [Lit.wf, IntKind.min, IntKind.max, IntKind.signed, IntKind.bits] at h0
  unfold fit
  omega
theorem fits_of {l : List S34} (h : l.length * 24 ≤ 140737488351232 ∧ l.length ≤ maxLen ∧ ∀ y ∈ l, fit34 y) : Fits l :=
  ⟨fun x hx => fit_of (h.2.2 x hx), by have := h.1; omega⟩
abbrev Row (l : List S34) : Prop := l.length * 24 ≤ 140737488351232 ∧ l.length ≤ maxLen ∧ ∀ y ∈ l, fit34 y
theorem CellsOwn (a : Int) (l m : List S34) (wa : (Lit.int .i64 a).wf = true) (hl : Row l) (hm : Row m) : ∃ k, stackyardlaw04_CellsOwn.f k a l m = some true := (Pure.CellsOwn a l m (fits_of hl) (fits_of hm) hl.1 hm.1).rounds
end Go.Proofs.YtkfpgniicfanoaaDoor.Law
