/- CellA, for the statement CellsMakes: what it needs, no more. -/
import Derived.Test.YtkfpgniicfanoaaDoorZCellsMakesPlain
namespace Go.Proofs.YtkfpgniicfanoaaDoor.CellA
set_option linter.unusedVariables false
set_option linter.unusedSimpArgs false
inductive Cl where
  | top
  | low (m : Nat) (u : Option Int)
  deriving DecidableEq
end Go.Proofs.YtkfpgniicfanoaaDoor.CellA
