/- KE, for the statement FramesValues: what it needs, no more. -/
import Derived.Test.YtcogffeinodfaaaDoorZFramesValuesKB
import Derived.Test.YtcogffeinodfaaaDoorZFramesValuesKC
import Derived.Test.YtcogffeinodfaaaDoorZFramesValuesKD
set_option maxRecDepth 100000
namespace Go.RM.Tryd
open Go Go.RM Go.Proofs
section
variable {X : FuncId → List PV → Heap → PV → Heap → Prop}
theorem k_awake : KOk Tryd.prog X (7, [], .val (.bool true)) := by
  refine known kmd [(27, [kText], kParsed), (28, [kProgram], kMade), (29, [kGraph], .val (.int .i64 0))] (fun x h => ?_) 100000 40 (by kernel_rfl)
  simp only [List.mem_cons, List.not_mem_nil, or_false] at h
  rcases h with rfl | rfl | rfl
  · exact k_parse
  · exact k_make
  · exact k_right
theorem awake_true : D Tryd.prog X (.callH 7 [] [] (.val (.bool true)) []) := k_awake.2.2
end
end Go.RM.Tryd
