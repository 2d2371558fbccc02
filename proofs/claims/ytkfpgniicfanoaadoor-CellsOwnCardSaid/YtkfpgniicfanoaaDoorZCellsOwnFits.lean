/- Fits, for the statement CellsOwn: what it needs, no more. -/
import Derived.Test.YtkfpgniicfanoaaDoorZCellsOwnPx0
import Derived.Test.YtkfpgniicfanoaaDoorZCellsOwnOpen
namespace Go.Proofs.YtkfpgniicfanoaaDoor.Open
end Go.Proofs.YtkfpgniicfanoaaDoor.Open
namespace Go.Proofs.YtkfpgniicfanoaaDoor.P
end Go.Proofs.YtkfpgniicfanoaaDoor.P
namespace Go.Proofs.YtkfpgniicfanoaaDoor.Fits
open Go.RowKit Go.WideShapes Go.ChangeShapes Go.Proofs.YtkfpgniicfanoaaDoor.Open Go.Proofs.YtkfpgniicfanoaaDoor.P Go.Proofs.YtkfpgniicfanoaaDoorW.PrintWords Go.Proofs.YtkfpgniicfanoaaDoorW.PrintLast Go.Proofs.YtkfpgniicfanoaaDoorW.PrintMore
set_option linter.unusedVariables false
def fit34 (x : S34) : Prop := ((Lit.int .u64 x.f0).wf = true) ∧ ((Lit.int .i64 x.f1).wf = true) ∧ ((Lit.int .i64 x.f2).wf = true)
theorem op34 {H : Type} (enc : TypeId × Value → H) (W : World) (n : Nat) : Opens enc Tryd.prog W 34 k34 fit34 n :=
  ((opens_struct (fun x : S34 => (x.f0, x.f1, x.f2)) (fun y => ⟨y.1, y.2.1, y.2.2⟩) (fun _ => rfl) Tryd.underlying34 (by kernel_rfl) (opensF_cons (by kernel_rfl) (by kernel_rfl) (of_decide_eq_true (by kernel_rfl)) (opens_int (by kernel_rfl) n) (opensF_cons (by kernel_rfl) (by kernel_rfl) (of_decide_eq_true (by kernel_rfl)) (opens_int (by kernel_rfl) n) (opensF_last (by kernel_rfl) (by kernel_rfl) (opens_int (by kernel_rfl) n))))).le (Nat.le_succ n)).weak (fun a h => h)
end Go.Proofs.YtkfpgniicfanoaaDoor.Fits
