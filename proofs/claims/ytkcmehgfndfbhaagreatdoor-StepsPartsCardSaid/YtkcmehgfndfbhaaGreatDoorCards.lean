/-
  DERIVED. GIVEN WITH THE SEED: THE CARDS: each row of YtkcmehgfndfbhaaGreatDoorRows.lean that lists a variable, with what it lists TIED to the program's text (the seventh form; the later family's looks); each row that meets fmt, with fmt's text TOLD by the authors' own Lean function (tested against real Go, not proved from fmt's source: count such statements apart). THE CARD IS WHAT COUNTS. Prove the row's statement (the work); the ties are given (YtkcmehgfndfbhaaGreatDoorTie.lean); close each card by the builder's one call (the guide's Derived/Test/ToyasCard.lean, 'card_holds'). Laid BY PROGRAM, IN A SANDBOX (cutbox-door.mjs). By AI agents, Wed Nov 11 2026. No macro, syntax, notation, axiom, sorry.
-/
import Derived.Test.YtkcmehgfndfbhaaGreatDoorRows
import GoSem.ClaimSeven
namespace Go.Proofs.YtkcmehgfndfbhaaGreatDoor
namespace Rows

/-- THE TIED CARD OF 'stackyardlaw12.StepsRuns'. -/
def stepsRunsCard : Claim7 := { stood := { row := stepsRunsRow, standIns := [], harness := (true, "be4b39b0dbe68a3887f3fe21578d7b65d1ce7a703a6ca3a8e54bd38e71e15ed5"), looks := false }, kinds := [], alts := [], laidByText := true, laidKinds := [.data, .data, .data], laidTests := true, laidLooks := .later }
def StepsRunsCardSaid : Prop := Claim7.holds Tryz.pinned (.plain (OpenSpec.ofChange stepsRunsSpec)) stepsRunsCard

/-- THE TIED CARD OF 'stackyardlaw12.StepsParts'. -/
def stepsPartsCard : Claim7 := { stood := { row := stepsPartsRow, standIns := [], harness := (true, "be4b39b0dbe68a3887f3fe21578d7b65d1ce7a703a6ca3a8e54bd38e71e15ed5"), looks := false }, kinds := [], alts := [], laidByText := true, laidKinds := [.data, .data, .data], laidTests := true, laidLooks := .later }
def StepsPartsCardSaid : Prop := Claim7.holds Tryz.pinned (.plain (OpenSpec.ofChange stepsPartsSpec)) stepsPartsCard

/-- THE TIED CARD OF 'stackyardlaw12.StepsNexts'. -/
def stepsNextsCard : Claim7 := { stood := { row := stepsNextsRow, standIns := [], harness := (true, "be4b39b0dbe68a3887f3fe21578d7b65d1ce7a703a6ca3a8e54bd38e71e15ed5"), looks := false }, kinds := [], alts := [], laidByText := true, laidKinds := [.data, .data, .data], laidTests := true, laidLooks := .later }
def StepsNextsCardSaid : Prop := Claim7.holds Tryz.pinned (.plain (OpenSpec.ofChange stepsNextsSpec)) stepsNextsCard

/-- THE TIED CARD OF 'stackyardlaw12.StepsBoth'. -/
def stepsBothCard : Claim7 := { stood := { row := stepsBothRow, standIns := [], harness := (true, "be4b39b0dbe68a3887f3fe21578d7b65d1ce7a703a6ca3a8e54bd38e71e15ed5"), looks := false }, kinds := [], alts := [], laidByText := true, laidKinds := [.data, .data, .data], laidTests := true, laidLooks := .later }
def StepsBothCardSaid : Prop := Claim7.holds Tryz.pinned (.plain (OpenSpec.ofChange stepsBothSpec)) stepsBothCard

/-- THE TIED CARD OF 'stackyardlaw12.StepsReaches'. -/
def stepsReachesCard : Claim7 := { stood := { row := stepsReachesRow, standIns := [], harness := (true, "be4b39b0dbe68a3887f3fe21578d7b65d1ce7a703a6ca3a8e54bd38e71e15ed5"), looks := false }, kinds := [], alts := [], laidByText := true, laidKinds := [.data, .data, .data], laidTests := true, laidLooks := .later }
def StepsReachesCardSaid : Prop := Claim7.holds Tryz.pinned (.plain (OpenSpec.ofChange stepsReachesSpec)) stepsReachesCard

/-- THE SECOND FORM's CARD OF 'stackyardlaw12.StepsRuns'. -/
def stepsRunsUptoCard : Claim7 := { stood := { row := stepsRunsUptoRow, standIns := [], harness := (true, "be4b39b0dbe68a3887f3fe21578d7b65d1ce7a703a6ca3a8e54bd38e71e15ed5"), looks := false }, kinds := [], alts := [], laidByText := true, laidKinds := [.data, .data, .data], laidTests := true, laidLooks := .later }
def StepsRunsUptoCardSaid : Prop := Claim7.holds Tryz.pinned (.plain (OpenSpec.upto stepsRunsSpec)) stepsRunsUptoCard

/-- THE SECOND FORM's CARD OF 'stackyardlaw12.StepsParts'. -/
def stepsPartsUptoCard : Claim7 := { stood := { row := stepsPartsUptoRow, standIns := [], harness := (true, "be4b39b0dbe68a3887f3fe21578d7b65d1ce7a703a6ca3a8e54bd38e71e15ed5"), looks := false }, kinds := [], alts := [], laidByText := true, laidKinds := [.data, .data, .data], laidTests := true, laidLooks := .later }
def StepsPartsUptoCardSaid : Prop := Claim7.holds Tryz.pinned (.plain (OpenSpec.upto stepsPartsSpec)) stepsPartsUptoCard

/-- THE SECOND FORM's CARD OF 'stackyardlaw12.StepsNexts'. -/
def stepsNextsUptoCard : Claim7 := { stood := { row := stepsNextsUptoRow, standIns := [], harness := (true, "be4b39b0dbe68a3887f3fe21578d7b65d1ce7a703a6ca3a8e54bd38e71e15ed5"), looks := false }, kinds := [], alts := [], laidByText := true, laidKinds := [.data, .data, .data], laidTests := true, laidLooks := .later }
def StepsNextsUptoCardSaid : Prop := Claim7.holds Tryz.pinned (.plain (OpenSpec.upto stepsNextsSpec)) stepsNextsUptoCard

/-- THE SECOND FORM's CARD OF 'stackyardlaw12.StepsBoth'. -/
def stepsBothUptoCard : Claim7 := { stood := { row := stepsBothUptoRow, standIns := [], harness := (true, "be4b39b0dbe68a3887f3fe21578d7b65d1ce7a703a6ca3a8e54bd38e71e15ed5"), looks := false }, kinds := [], alts := [], laidByText := true, laidKinds := [.data, .data, .data], laidTests := true, laidLooks := .later }
def StepsBothUptoCardSaid : Prop := Claim7.holds Tryz.pinned (.plain (OpenSpec.upto stepsBothSpec)) stepsBothUptoCard

/-- THE SECOND FORM's CARD OF 'stackyardlaw12.StepsReaches'. -/
def stepsReachesUptoCard : Claim7 := { stood := { row := stepsReachesUptoRow, standIns := [], harness := (true, "be4b39b0dbe68a3887f3fe21578d7b65d1ce7a703a6ca3a8e54bd38e71e15ed5"), looks := false }, kinds := [], alts := [], laidByText := true, laidKinds := [.data, .data, .data], laidTests := true, laidLooks := .later }
def StepsReachesUptoCardSaid : Prop := Claim7.holds Tryz.pinned (.plain (OpenSpec.upto stepsReachesSpec)) stepsReachesUptoCard
end Rows
end Go.Proofs.YtkcmehgfndfbhaaGreatDoor
