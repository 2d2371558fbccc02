/- KB, for the statement FramesValues: what it needs, no more. -/
import Derived.Test.YtcogffeinodfaaaDoorZFramesValuesKA
set_option maxRecDepth 100000
namespace Go.RM.Tryd
open Go Go.RM Go.Proofs
section
variable {X : FuncId → List PV → Heap → PV → Heap → Prop}
theorem k_parse : KOk Tryd.prog X (27, [kText], kParsed) := known kmd [(37, [kText], kTokens)] (fun _ h => by rw [List.mem_singleton.1 h]; exact k_split) 100000 40 (by kernel_rfl)
end
end Go.RM.Tryd
