/-
  DERIVED. GIVEN WITH THE SEED: THE CARDS: each row of YtcogffeinodfaaaGreatDoorRows.lean that lists a variable, with what it lists TIED to the program's text (the seventh form; the later family's looks); each row that meets fmt, with fmt's text TOLD by the authors' own Lean function (tested against real Go, not proved from fmt's source: count such statements apart). THE CARD IS WHAT COUNTS. Prove the row's statement (the work); the ties are given (YtcogffeinodfaaaGreatDoorTie.lean); close each card by the builder's one call (the guide's Derived/Test/ToyasCard.lean, 'card_holds'). Laid BY PROGRAM, IN A SANDBOX (cutbox-door.mjs). By AI agents, Wed Nov 11 2026. No macro, syntax, notation, axiom, sorry.
-/
import Derived.Test.YtcogffeinodfaaaGreatDoorRows
import GoSem.ClaimSeven
namespace Go.Proofs.YtcogffeinodfaaaGreatDoor
namespace Rows

/-- THE TIED CARD OF 'stackyardlaw22.FramesStates'. -/
def framesStatesCard : Claim7 := { stood := { row := framesStatesRow, standIns := [], harness := (true, "6ff3b9ab09bd08e23a3a980f29259830c3fe000291086fc87bc871397b8b8fd1"), looks := false }, kinds := [], alts := [], laidByText := true, laidKinds := [.data, .data, .data], laidTests := true, laidLooks := .later }
def FramesStatesCardSaid : Prop := Claim7.holds Tryz.pinned (.plain (OpenSpec.ofChange framesStatesSpec)) framesStatesCard

/-- THE TIED CARD OF 'stackyardlaw22.FramesExplores'. -/
def framesExploresCard : Claim7 := { stood := { row := framesExploresRow, standIns := [], harness := (true, "6ff3b9ab09bd08e23a3a980f29259830c3fe000291086fc87bc871397b8b8fd1"), looks := false }, kinds := [], alts := [], laidByText := true, laidKinds := [.data, .data, .data], laidTests := true, laidLooks := .later }
def FramesExploresCardSaid : Prop := Claim7.holds Tryz.pinned (.plain (OpenSpec.ofChange framesExploresSpec)) framesExploresCard

/-- THE TIED CARD OF 'stackyardlaw22.FramesReached'. -/
def framesReachedCard : Claim7 := { stood := { row := framesReachedRow, standIns := [], harness := (true, "6ff3b9ab09bd08e23a3a980f29259830c3fe000291086fc87bc871397b8b8fd1"), looks := false }, kinds := [], alts := [], laidByText := true, laidKinds := [.data, .data, .data], laidTests := true, laidLooks := .later }
def FramesReachedCardSaid : Prop := Claim7.holds Tryz.pinned (.plain (OpenSpec.ofChange framesReachedSpec)) framesReachedCard

/-- THE SECOND FORM's CARD OF 'stackyardlaw22.FramesStates'. -/
def framesStatesUptoCard : Claim7 := { stood := { row := framesStatesUptoRow, standIns := [], harness := (true, "6ff3b9ab09bd08e23a3a980f29259830c3fe000291086fc87bc871397b8b8fd1"), looks := false }, kinds := [], alts := [], laidByText := true, laidKinds := [.data, .data, .data], laidTests := true, laidLooks := .later }
def FramesStatesUptoCardSaid : Prop := Claim7.holds Tryz.pinned (.plain (OpenSpec.upto framesStatesSpec)) framesStatesUptoCard

/-- THE SECOND FORM's CARD OF 'stackyardlaw22.FramesExplores'. -/
def framesExploresUptoCard : Claim7 := { stood := { row := framesExploresUptoRow, standIns := [], harness := (true, "6ff3b9ab09bd08e23a3a980f29259830c3fe000291086fc87bc871397b8b8fd1"), looks := false }, kinds := [], alts := [], laidByText := true, laidKinds := [.data, .data, .data], laidTests := true, laidLooks := .later }
def FramesExploresUptoCardSaid : Prop := Claim7.holds Tryz.pinned (.plain (OpenSpec.upto framesExploresSpec)) framesExploresUptoCard

/-- THE SECOND FORM's CARD OF 'stackyardlaw22.FramesReached'. -/
def framesReachedUptoCard : Claim7 := { stood := { row := framesReachedUptoRow, standIns := [], harness := (true, "6ff3b9ab09bd08e23a3a980f29259830c3fe000291086fc87bc871397b8b8fd1"), looks := false }, kinds := [], alts := [], laidByText := true, laidKinds := [.data, .data, .data], laidTests := true, laidLooks := .later }
def FramesReachedUptoCardSaid : Prop := Claim7.holds Tryz.pinned (.plain (OpenSpec.upto framesReachedSpec)) framesReachedUptoCard
end Rows
end Go.Proofs.YtcogffeinodfaaaGreatDoor
