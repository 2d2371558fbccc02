/- KZ, for the statement WeightRing: what it needs, no more. -/
import Derived.Test.YthjbpjpcddegfaaGreatDoorZWeightRingKX
set_option maxRecDepth 100000
namespace Go.RM.Tryz
open Go Go.RM Go.Proofs
def kmd : FuncId → Bool := fun f => f != 0
theorem k_alive : KOk Tryz.prog X (12, [], .val (.bool true)) := by
  refine known kmd [(94, [.val (.int .u64 1)], .val (.string text1)), (98, [.val (.int .i64 (-5)), .val (.int .i64 10)], .val (.string five))] (fun x h => ?_) 100000 40 (by kernel_rfl)
  simp only [List.mem_cons, List.not_mem_nil, or_false] at h
  rcases h with rfl | rfl
  · exact k_text
  · exact k_minus
theorem alive_true : D Tryz.prog X (.callH 12 [] [] (.val (.bool true)) []) := k_alive.2.2
end Go.RM.Tryz
