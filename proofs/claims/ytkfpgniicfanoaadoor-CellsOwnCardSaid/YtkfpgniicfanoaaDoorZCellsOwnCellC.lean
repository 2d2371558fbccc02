/- CellC, for the statement CellsOwn: what it needs, no more. -/
import Derived.Test.YtkfpgniicfanoaaDoorZCellsOwnCellB
namespace Go.Proofs.YtkfpgniicfanoaaDoor.CellA
end Go.Proofs.YtkfpgniicfanoaaDoor.CellA
namespace Go.Proofs.YtkfpgniicfanoaaDoor.CellB
end Go.Proofs.YtkfpgniicfanoaaDoor.CellB
namespace Go.Proofs.YtkfpgniicfanoaaDoor.P
end Go.Proofs.YtkfpgniicfanoaaDoor.P
namespace Go.Proofs.YtkfpgniicfanoaaDoor.Plain
end Go.Proofs.YtkfpgniicfanoaaDoor.Plain
namespace Go.Proofs.YtkfpgniicfanoaaDoor.Pure
open Go.RowKit Go.Proofs.YtkfpgniicfanoaaDoor.P Go.Proofs.YtkfpgniicfanoaaDoor.Plain Go.Proofs.YtkfpgniicfanoaaDoor.CellA Go.Proofs.YtkfpgniicfanoaaDoor.CellB Go.Proofs.YtkfpgniicfanoaaDoorW.PrintWords Go.Proofs.YtkfpgniicfanoaaDoorW.PrintLast Go.Proofs.YtkfpgniicfanoaaDoorW.PrintMore
set_option linter.unusedVariables false
set_option linter.unusedSimpArgs false
theorem awake_ev : Ev (fun k => stackyardlaw04_awake.f k) true := by
  refine Ev.of stackyardlaw04_awake.mono (k := 200) ?_
  unfold stackyardlaw04_awake.f
  simp only [toList_eq]
  kernel_rfl
/-- What every list in memory is. -/
def Fits (l : List S34) : Prop := (∀ x ∈ l, fit x) ∧ l.length < 9223372036854775807
end Go.Proofs.YtkfpgniicfanoaaDoor.Pure
