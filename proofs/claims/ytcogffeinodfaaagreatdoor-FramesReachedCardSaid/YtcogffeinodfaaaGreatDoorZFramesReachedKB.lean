/- KB, for the statement FramesReached: what it needs, no more. -/
import Derived.Test.YtcogffeinodfaaaGreatDoorZFramesReachedKA
set_option maxRecDepth 100000
namespace Go.RM.Tryz
open Go Go.RM Go.Proofs
section
variable {X : FuncId → List PV → Heap → PV → Heap → Prop}
theorem k_parse : KOk Tryz.prog X (39, [kText], kParsed) := known kmd [(57, [kText], kTokens)] (fun _ h => by rw [List.mem_singleton.1 h]; exact k_split) 100000 40 (by kernel_rfl)
end
end Go.RM.Tryz
