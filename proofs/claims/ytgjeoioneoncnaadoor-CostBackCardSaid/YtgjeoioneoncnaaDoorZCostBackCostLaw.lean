/- CostLaw, for the statement CostBack: what it needs, no more. -/
import Derived.Test.YtgjeoioneoncnaaDoorZCostBackPureF
import Derived.Test.YtgjeoioneoncnaaDoorZCostBackPx0
import Derived.Test.YtgjeoioneoncnaaDoorWMore
import Derived.ChangeArms
import Derived.DataReads
import Derived.SizedLaws
import Derived.OpenShut
import Derived.WideShapes
import Derived.Lib.LaidTab
import Derived.Stop.LaidErr
namespace Go.Proofs.YtgjeoioneoncnaaDoor.P
end Go.Proofs.YtgjeoioneoncnaaDoor.P
namespace Go.Proofs.YtgjeoioneoncnaaDoor.Pure
end Go.Proofs.YtgjeoioneoncnaaDoor.Pure
namespace Go.Proofs.YtgjeoioneoncnaaDoor.Law
open Go.RowKit Go.Proofs.YtgjeoioneoncnaaDoor.P Go.Proofs.YtgjeoioneoncnaaDoor.Pure Go.Proofs.YtgjeoioneoncnaaDoorW.PrintWords Go.Proofs.YtgjeoioneoncnaaDoorW.PrintLast Go.Proofs.YtgjeoioneoncnaaDoorW.PrintMore
set_option linter.unusedVariables false
theorem CostBack (a c : Int) (s : ByteArray) (wa : (Lit.int .i64 a).wf = true) (wc : (Lit.int .i64 c).wf = true) (ws : s.size ≤ 140737488351232) : ∃ k, stackyardlaw02_CostBack.f k a c s = some true := (Pure.CostBack a c s).rounds
end Go.Proofs.YtgjeoioneoncnaaDoor.Law
