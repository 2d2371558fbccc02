/-
  DERIVED. GIVEN WITH THE SEED: THE CARDS: each row of YtcogffeinodfaaaDoorRows.lean that lists a variable, with what it lists TIED to the program's text (the seventh form; the later family's looks); each row that meets fmt, with fmt's text TOLD by the authors' own Lean function (tested against real Go, not proved from fmt's source: count such statements apart). THE CARD IS WHAT COUNTS. Prove the row's statement (the work); the ties are given (YtcogffeinodfaaaDoorTie.lean); close each card by the builder's one call (the guide's Derived/Test/ToyasCard.lean, 'card_holds'). Laid BY PROGRAM, IN A SANDBOX (cutbox-door.mjs). By AI agents, Wed Nov 11 2026. No macro, syntax, notation, axiom, sorry.
-/
import Derived.Test.YtcogffeinodfaaaDoorRows
import GoSem.ClaimSeven
namespace Go.Proofs.YtcogffeinodfaaaDoor
namespace Rows

/-- THE TIED CARD OF 'stackyardlaw22.FramesParts'. -/
def framesPartsCard : Claim7 := { stood := { row := framesPartsRow, standIns := [], harness := (true, "6949e4103ef7323f126748f7999fed5ce20f6120e4b4cbf9ddc7c3dcf6951614"), looks := false }, kinds := [], alts := [], laidByText := true, laidKinds := [.data, .data, .data], laidTests := true, laidLooks := .later }
def FramesPartsCardSaid : Prop := Claim7.holds Tryd.pinned (.plain (OpenSpec.ofChange framesPartsSpec)) framesPartsCard

/-- THE TIED CARD OF 'stackyardlaw22.FramesValues'. -/
def framesValuesCard : Claim7 := { stood := { row := framesValuesRow, standIns := [], harness := (true, "6949e4103ef7323f126748f7999fed5ce20f6120e4b4cbf9ddc7c3dcf6951614"), looks := false }, kinds := [], alts := [], laidByText := true, laidKinds := [.data, .data, .data], laidTests := true, laidLooks := .later }
def FramesValuesCardSaid : Prop := Claim7.holds Tryd.pinned (.plain (OpenSpec.ofChange framesValuesSpec)) framesValuesCard

/-- THE TIED CARD OF 'stackyardlaw22.FramesRuns'. -/
def framesRunsCard : Claim7 := { stood := { row := framesRunsRow, standIns := [], harness := (true, "6949e4103ef7323f126748f7999fed5ce20f6120e4b4cbf9ddc7c3dcf6951614"), looks := false }, kinds := [], alts := [], laidByText := true, laidKinds := [.data, .data, .data], laidTests := true, laidLooks := .later }
def FramesRunsCardSaid : Prop := Claim7.holds Tryd.pinned (.plain (OpenSpec.ofChange framesRunsSpec)) framesRunsCard

/-- THE TIED CARD OF 'stackyardlaw22.FramesCalls'. -/
def framesCallsCard : Claim7 := { stood := { row := framesCallsRow, standIns := [], harness := (true, "6949e4103ef7323f126748f7999fed5ce20f6120e4b4cbf9ddc7c3dcf6951614"), looks := false }, kinds := [], alts := [], laidByText := true, laidKinds := [.data, .data, .data], laidTests := true, laidLooks := .later }
def FramesCallsCardSaid : Prop := Claim7.holds Tryd.pinned (.plain (OpenSpec.ofChange framesCallsSpec)) framesCallsCard

/-- THE SECOND FORM's CARD OF 'stackyardlaw22.FramesParts'. -/
def framesPartsUptoCard : Claim7 := { stood := { row := framesPartsUptoRow, standIns := [], harness := (true, "6949e4103ef7323f126748f7999fed5ce20f6120e4b4cbf9ddc7c3dcf6951614"), looks := false }, kinds := [], alts := [], laidByText := true, laidKinds := [.data, .data, .data], laidTests := true, laidLooks := .later }
def FramesPartsUptoCardSaid : Prop := Claim7.holds Tryd.pinned (.plain (OpenSpec.upto framesPartsSpec)) framesPartsUptoCard

/-- THE SECOND FORM's CARD OF 'stackyardlaw22.FramesValues'. -/
def framesValuesUptoCard : Claim7 := { stood := { row := framesValuesUptoRow, standIns := [], harness := (true, "6949e4103ef7323f126748f7999fed5ce20f6120e4b4cbf9ddc7c3dcf6951614"), looks := false }, kinds := [], alts := [], laidByText := true, laidKinds := [.data, .data, .data], laidTests := true, laidLooks := .later }
def FramesValuesUptoCardSaid : Prop := Claim7.holds Tryd.pinned (.plain (OpenSpec.upto framesValuesSpec)) framesValuesUptoCard

/-- THE SECOND FORM's CARD OF 'stackyardlaw22.FramesRuns'. -/
def framesRunsUptoCard : Claim7 := { stood := { row := framesRunsUptoRow, standIns := [], harness := (true, "6949e4103ef7323f126748f7999fed5ce20f6120e4b4cbf9ddc7c3dcf6951614"), looks := false }, kinds := [], alts := [], laidByText := true, laidKinds := [.data, .data, .data], laidTests := true, laidLooks := .later }
def FramesRunsUptoCardSaid : Prop := Claim7.holds Tryd.pinned (.plain (OpenSpec.upto framesRunsSpec)) framesRunsUptoCard

/-- THE SECOND FORM's CARD OF 'stackyardlaw22.FramesCalls'. -/
def framesCallsUptoCard : Claim7 := { stood := { row := framesCallsUptoRow, standIns := [], harness := (true, "6949e4103ef7323f126748f7999fed5ce20f6120e4b4cbf9ddc7c3dcf6951614"), looks := false }, kinds := [], alts := [], laidByText := true, laidKinds := [.data, .data, .data], laidTests := true, laidLooks := .later }
def FramesCallsUptoCardSaid : Prop := Claim7.holds Tryd.pinned (.plain (OpenSpec.upto framesCallsSpec)) framesCallsUptoCard
end Rows
end Go.Proofs.YtcogffeinodfaaaDoor
