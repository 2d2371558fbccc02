/-
  DERIVED. GIVEN WITH THE SEED: THE CARDS: each row of YtckndmicdndamaaGreatDoorRows.lean that lists a variable, with what it lists TIED to the program's text (the seventh form; the later family's looks); each row that meets fmt, with fmt's text TOLD by the authors' own Lean function (tested against real Go, not proved from fmt's source: count such statements apart). THE CARD IS WHAT COUNTS. Prove the row's statement (the work); the ties are given (YtckndmicdndamaaGreatDoorTie.lean); close each card by the builder's one call (the guide's Derived/Test/ToyasCard.lean, 'card_holds'). Laid BY PROGRAM, IN A SANDBOX (cutbox-door.mjs). By AI agents, Wed Nov 11 2026. No macro, syntax, notation, axiom, sorry.
-/
import Derived.Test.YtckndmicdndamaaGreatDoorRows
import GoSem.ClaimSeven
namespace Go.Proofs.YtckndmicdndamaaGreatDoor
namespace Rows

/-- THE TIED CARD OF 'stackyardlaw13.LimitRuns'. -/
def limitRunsCard : Claim7 := { stood := { row := limitRunsRow, standIns := [], harness := (true, "3abe730b64157b486093ec5023a75754595a37d908eec4594f145016c1c7aee9"), looks := false }, kinds := [], alts := [], laidByText := true, laidKinds := [.data], laidTests := true, laidLooks := .later }
def LimitRunsCardSaid : Prop := Claim7.holds Tryz.pinned (.plain (OpenSpec.ofChange limitRunsSpec)) limitRunsCard

/-- THE TIED CARD OF 'stackyardlaw13.LimitAlone'. -/
def limitAloneCard : Claim7 := { stood := { row := limitAloneRow, standIns := [], harness := (true, "3abe730b64157b486093ec5023a75754595a37d908eec4594f145016c1c7aee9"), looks := false }, kinds := [], alts := [], laidByText := true, laidKinds := [.data, .data, .data], laidTests := true, laidLooks := .later }
def LimitAloneCardSaid : Prop := Claim7.holds Tryz.pinned (.plain (OpenSpec.ofChange limitAloneSpec)) limitAloneCard

/-- THE TIED CARD OF 'stackyardlaw13.LimitSums'. -/
def limitSumsCard : Claim7 := { stood := { row := limitSumsRow, standIns := [], harness := (true, "3abe730b64157b486093ec5023a75754595a37d908eec4594f145016c1c7aee9"), looks := false }, kinds := [], alts := [], laidByText := true, laidKinds := [.data, .data, .data], laidTests := true, laidLooks := .later }
def LimitSumsCardSaid : Prop := Claim7.holds Tryz.pinned (.plain (OpenSpec.ofChange limitSumsSpec)) limitSumsCard

/-- THE TIED CARD OF 'stackyardlaw13.LimitMore'. -/
def limitMoreCard : Claim7 := { stood := { row := limitMoreRow, standIns := [], harness := (true, "3abe730b64157b486093ec5023a75754595a37d908eec4594f145016c1c7aee9"), looks := false }, kinds := [], alts := [], laidByText := true, laidKinds := [.data, .data, .data], laidTests := true, laidLooks := .later }
def LimitMoreCardSaid : Prop := Claim7.holds Tryz.pinned (.plain (OpenSpec.ofChange limitMoreSpec)) limitMoreCard

/-- THE TIED CARD OF 'stackyardlaw13.LimitStep'. -/
def limitStepCard : Claim7 := { stood := { row := limitStepRow, standIns := [], harness := (true, "3abe730b64157b486093ec5023a75754595a37d908eec4594f145016c1c7aee9"), looks := false }, kinds := [], alts := [], laidByText := true, laidKinds := [.data, .data, .data], laidTests := true, laidLooks := .later }
def LimitStepCardSaid : Prop := Claim7.holds Tryz.pinned (.plain (OpenSpec.ofChange limitStepSpec)) limitStepCard

/-- THE SECOND FORM's CARD OF 'stackyardlaw13.LimitRuns'. -/
def limitRunsUptoCard : Claim7 := { stood := { row := limitRunsUptoRow, standIns := [], harness := (true, "3abe730b64157b486093ec5023a75754595a37d908eec4594f145016c1c7aee9"), looks := false }, kinds := [], alts := [], laidByText := true, laidKinds := [.data], laidTests := true, laidLooks := .later }
def LimitRunsUptoCardSaid : Prop := Claim7.holds Tryz.pinned (.plain (OpenSpec.upto limitRunsSpec)) limitRunsUptoCard

/-- THE SECOND FORM's CARD OF 'stackyardlaw13.LimitAlone'. -/
def limitAloneUptoCard : Claim7 := { stood := { row := limitAloneUptoRow, standIns := [], harness := (true, "3abe730b64157b486093ec5023a75754595a37d908eec4594f145016c1c7aee9"), looks := false }, kinds := [], alts := [], laidByText := true, laidKinds := [.data, .data, .data], laidTests := true, laidLooks := .later }
def LimitAloneUptoCardSaid : Prop := Claim7.holds Tryz.pinned (.plain (OpenSpec.upto limitAloneSpec)) limitAloneUptoCard

/-- THE SECOND FORM's CARD OF 'stackyardlaw13.LimitSums'. -/
def limitSumsUptoCard : Claim7 := { stood := { row := limitSumsUptoRow, standIns := [], harness := (true, "3abe730b64157b486093ec5023a75754595a37d908eec4594f145016c1c7aee9"), looks := false }, kinds := [], alts := [], laidByText := true, laidKinds := [.data, .data, .data], laidTests := true, laidLooks := .later }
def LimitSumsUptoCardSaid : Prop := Claim7.holds Tryz.pinned (.plain (OpenSpec.upto limitSumsSpec)) limitSumsUptoCard

/-- THE SECOND FORM's CARD OF 'stackyardlaw13.LimitMore'. -/
def limitMoreUptoCard : Claim7 := { stood := { row := limitMoreUptoRow, standIns := [], harness := (true, "3abe730b64157b486093ec5023a75754595a37d908eec4594f145016c1c7aee9"), looks := false }, kinds := [], alts := [], laidByText := true, laidKinds := [.data, .data, .data], laidTests := true, laidLooks := .later }
def LimitMoreUptoCardSaid : Prop := Claim7.holds Tryz.pinned (.plain (OpenSpec.upto limitMoreSpec)) limitMoreUptoCard

/-- THE SECOND FORM's CARD OF 'stackyardlaw13.LimitStep'. -/
def limitStepUptoCard : Claim7 := { stood := { row := limitStepUptoRow, standIns := [], harness := (true, "3abe730b64157b486093ec5023a75754595a37d908eec4594f145016c1c7aee9"), looks := false }, kinds := [], alts := [], laidByText := true, laidKinds := [.data, .data, .data], laidTests := true, laidLooks := .later }
def LimitStepUptoCardSaid : Prop := Claim7.holds Tryz.pinned (.plain (OpenSpec.upto limitStepSpec)) limitStepUptoCard
end Rows
end Go.Proofs.YtckndmicdndamaaGreatDoor
