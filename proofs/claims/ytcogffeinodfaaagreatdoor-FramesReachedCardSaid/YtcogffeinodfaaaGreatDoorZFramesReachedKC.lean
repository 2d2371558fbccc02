/- KC, for the statement FramesReached: what it needs, no more. -/
import Derived.Test.YtcogffeinodfaaaGreatDoorZFramesReachedKA
set_option maxRecDepth 100000
namespace Go.RM.Tryz
open Go Go.RM Go.Proofs
section
variable {X : FuncId → List PV → Heap → PV → Heap → Prop}
theorem k_make : KOk Tryz.prog X (40, [kProgram], kMade) := known kmd [] (fun _ h => by cases h) 100000 40 (by kernel_rfl)
end
end Go.RM.Tryz
