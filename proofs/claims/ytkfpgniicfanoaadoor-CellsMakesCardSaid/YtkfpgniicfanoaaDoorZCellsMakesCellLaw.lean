/- CellLaw, for the statement CellsMakes: what it needs, no more. -/
import Derived.Test.YtkfpgniicfanoaaDoorZCellsMakesCellD
import Derived.Test.YtkfpgniicfanoaaDoorZCellsMakesCellC
import Derived.Test.YtkfpgniicfanoaaDoorZCellsMakesPx0
import Derived.Test.YtkfpgniicfanoaaDoorWMore
import Derived.Lib.ItoaLen
import Derived.ChangeArms
import Derived.DataReads
import Derived.SizedLaws
import Derived.OpenShut
import Derived.WideShapes
import Derived.Lib.LaidTab
import Derived.Stop.LaidErr
namespace Go.Proofs.YtkfpgniicfanoaaDoor.CellB
end Go.Proofs.YtkfpgniicfanoaaDoor.CellB
namespace Go.Proofs.YtkfpgniicfanoaaDoor.Fits
end Go.Proofs.YtkfpgniicfanoaaDoor.Fits
namespace Go.Proofs.YtkfpgniicfanoaaDoor.P
end Go.Proofs.YtkfpgniicfanoaaDoor.P
namespace Go.Proofs.YtkfpgniicfanoaaDoor.Pure
end Go.Proofs.YtkfpgniicfanoaaDoor.Pure
namespace Go.Proofs.YtkfpgniicfanoaaDoor.Law
open Go.RowKit Go.Proofs.YtkfpgniicfanoaaDoor.P Go.Proofs.YtkfpgniicfanoaaDoor.Pure Go.Proofs.YtkfpgniicfanoaaDoor.Fits Go.Proofs.YtkfpgniicfanoaaDoor.CellB Go.Proofs.YtkfpgniicfanoaaDoorW.PrintWords Go.Proofs.YtkfpgniicfanoaaDoorW.PrintLast Go.Proofs.YtkfpgniicfanoaaDoorW.PrintMore
set_option linter.unusedVariables false
theorem CellsMakes (a a1 a2 v : Int) (wa : (Lit.int .i64 a).wf = true) (w1 : (Lit.int .i64 a1).wf = true) (w2 : (Lit.int .i64 a2).wf = true) (w3 : (Lit.int .i64 v).wf = true) : ∃ k, stackyardlaw04_CellsMakes.f k a a1 a2 v = some true := (Pure.CellsMakes a a1 a2 v).rounds
end Go.Proofs.YtkfpgniicfanoaaDoor.Law
