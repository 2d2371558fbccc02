/- Px1, for the statement CellsOwn: what it needs, no more. -/
import Derived.Test.YtkfpgniicfanoaaDoorZCellsOwnPx0
-- Written by a program of this session (wip/print/patch_print.py over the kit's printer) out of the translation: functions and contracts. Lean checks it.
namespace Go.Proofs.YtkfpgniicfanoaaDoor.P
open Go.RowKit Go.Proofs.YtkfpgniicfanoaaDoorW.PrintWords Go.Proofs.YtkfpgniicfanoaaDoorW.PrintLast Go.Proofs.YtkfpgniicfanoaaDoorW.PrintMore
attribute [local go_sem] max2_int min2_int max_two min_two max_three min_three max_four min_four   -- for this text's walks alone
set_option linter.unusedVariables false
set_option linter.unusedSimpArgs false
theorem eqA34 (d : Nat) (w : World) (x0 y0 : Int) (x1 y1 : Int) (x2 y2 : Int) :
    (Op.equalIn (d + 2) 34 (.agg #[.int .u64 x0, .int .i64 x1, .int .i64 x2]) (.agg #[.int .u64 y0, .int .i64 y1, .int .i64 y2])).run Tryd.prog w = .ok (x0 == y0 && (x1 == y1 && (x2 == y2))) w := by
  refine eqA_of Tryd.underlying34 (by kernel_rfl) ?_
  refine eqf_cons (by rfl) (by go_simp; rfl) (by go_simp; rfl) (by go_simp) ?_
  refine eqf_cons (by rfl) (by go_simp; rfl) (by go_simp; rfl) (by go_simp) ?_
  exact eqf_last (by rfl) (by go_simp; rfl) (by go_simp; rfl) (by go_simp)
end Go.Proofs.YtkfpgniicfanoaaDoor.P
