/- KE, for the statement FramesReached: what it needs, no more. -/
import Derived.Test.YtcogffeinodfaaaGreatDoorZFramesReachedKB
import Derived.Test.YtcogffeinodfaaaGreatDoorZFramesReachedKC
import Derived.Test.YtcogffeinodfaaaGreatDoorZFramesReachedKD
set_option maxRecDepth 100000
namespace Go.RM.Tryz
open Go Go.RM Go.Proofs
section
variable {X : FuncId → List PV → Heap → PV → Heap → Prop}
theorem k_awake : KOk Tryz.prog X (6, [], .val (.bool true)) := by
  refine known kmd [(39, [kText], kParsed), (40, [kProgram], kMade), (25, [kGraph], .val (.int .i64 0))] (fun x h => ?_) 100000 40 (by kernel_rfl)
  simp only [List.mem_cons, List.not_mem_nil, or_false] at h
  rcases h with rfl | rfl | rfl
  · exact k_parse
  · exact k_make
  · exact k_right
theorem awake_true : D Tryz.prog X (.callH 6 [] [] (.val (.bool true)) []) := k_awake.2.2
end
end Go.RM.Tryz
