/-
  DERIVED. GIVEN WITH THE SEED: THE CARDS: each row of YtkcmehgfndfbhaaDoorRows.lean that lists a variable, with what it lists TIED to the program's text (the seventh form; the later family's looks); each row that meets fmt, with fmt's text TOLD by the authors' own Lean function (tested against real Go, not proved from fmt's source: count such statements apart). THE CARD IS WHAT COUNTS. Prove the row's statement (the work); the ties are given (YtkcmehgfndfbhaaDoorTie.lean); close each card by the builder's one call (the guide's Derived/Test/ToyasCard.lean, 'card_holds'). Laid BY PROGRAM, IN A SANDBOX (cutbox-door.mjs). By AI agents, Wed Nov 11 2026. No macro, syntax, notation, axiom, sorry.
-/
import Derived.Test.YtkcmehgfndfbhaaDoorRows
import GoSem.ClaimSeven
namespace Go.Proofs.YtkcmehgfndfbhaaDoor
namespace Rows

/-- THE TIED CARD OF 'stackyardlaw12.StepsEnds'. -/
def stepsEndsCard : Claim7 := { stood := { row := stepsEndsRow, standIns := [], harness := (true, "33c15b1d8eed8f1559976397e51593f7aa11599cb5fd159736cc80c2fbf87635"), looks := false }, kinds := [], alts := [], laidByText := true, laidKinds := [.data, .data, .data], laidTests := true, laidLooks := .later }
def StepsEndsCardSaid : Prop := Claim7.holds Tryd.pinned (.plain (OpenSpec.ofChange stepsEndsSpec)) stepsEndsCard

/-- THE SECOND FORM's CARD OF 'stackyardlaw12.StepsEnds'. -/
def stepsEndsUptoCard : Claim7 := { stood := { row := stepsEndsUptoRow, standIns := [], harness := (true, "33c15b1d8eed8f1559976397e51593f7aa11599cb5fd159736cc80c2fbf87635"), looks := false }, kinds := [], alts := [], laidByText := true, laidKinds := [.data, .data, .data], laidTests := true, laidLooks := .later }
def StepsEndsUptoCardSaid : Prop := Claim7.holds Tryd.pinned (.plain (OpenSpec.upto stepsEndsSpec)) stepsEndsUptoCard
end Rows
end Go.Proofs.YtkcmehgfndfbhaaDoor
