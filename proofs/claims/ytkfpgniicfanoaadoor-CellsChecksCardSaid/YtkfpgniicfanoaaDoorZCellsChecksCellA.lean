/- CellA, for the statement CellsChecks: what it needs, no more. -/
import Derived.Test.YtkfpgniicfanoaaDoorZCellsChecksPlain
namespace Go.Proofs.YtkfpgniicfanoaaDoor.CellA
set_option linter.unusedVariables false
set_option linter.unusedSimpArgs false
inductive Cl where
  | top
  | low (m : Nat) (u : Option Int)
  deriving DecidableEq
/-- Within a dimension. -/
def lt (d : Nat) : Cl → Prop
  | .top => True
  | .low m _ => m < 2 ^ d
end Go.Proofs.YtkfpgniicfanoaaDoor.CellA
