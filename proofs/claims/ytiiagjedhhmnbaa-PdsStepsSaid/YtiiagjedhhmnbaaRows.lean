/-
  NARROWER THAN 'FOR EVERY INPUT', by the rows' own cells (each row's printed sentence says how): PdsShorts: loops · PdsSteps: loops · PdsTops: loops.
  DERIVED. THE GIVEN ROWS OF THIS SEAT. 3 by the template 'for every input the law returns true; each argument reads behind the call as it read before'; 0 by the template 'total and deterministic' (their statements: YtiiagjedhhmnbaaTotals.lean).
  GIVEN WITH THE SEED: the statements are not yours to turn. If you find one false, say at which input.
  Laid BY PROGRAM, IN A SANDBOX (cutbox-rows.mjs): the forced cells as the released guide's own fill.sh prints them over the translation 74cdbc66a5532010… (all of the seat's roots in one cut). By AI agents, Wed Nov 11 2026. No macro, syntax, notation, axiom, sorry.
-/
import Derived.Test.YtiiagjedhhmnbaaChecked
import GoSem.Claim
import GoSem.ClaimJoined
import GoSem.ClaimMapViews
import Derived.JoinedTies
import Derived.KernelRfl
namespace Go.Proofs.Ytiiagjedhhmnbaa
/- THE CELL 'sum', in the pinned program and in every row, IS THE sha256 OF THE DUMP (.gsa) THAT YtiiagjedhhmnbaaProg.lean LOADS. Nothing in Lean hashes anything: it is a label: what it is worth is what the hold of that sum in a sandbox is worth. -/
noncomputable def Try.pinned : Pinned := { name := "ytiiagjedhhmnbaa", sum := "74cdbc66a55320106b7363cb770779d10541716aeb6560a1c4333bbe612289c3", checked := Try.checked }
namespace Rows
def none {H : Type} : Left H := { results := [], args := [] }

/-- 'stackyardlaw11.PdsShorts': WHATEVER THE INPUT: true; the input reads as it did. -/
def pdsShortsSpec : ChangeSpec := { name := "pdsShorts", fn := fun _ => fun
  | [d] => { results := [.lit (.bool true)], args := [d] }
  | _ => none }
def pdsShortsRow : OpenClaim := { program := "ytiiagjedhhmnbaa", sum := "74cdbc66a55320106b7363cb770779d10541716aeb6560a1c4333bbe612289c3", func := "stackyard/stackyardlaw11.PdsShorts", spec := "pdsShorts", unfollowed := true, recurses := true, loops := true, apart := false }
def PdsShortsSaid : Prop := pdsShortsRow.holds Try.pinned (OpenSpec.ofChange pdsShortsSpec)

/-- ITS FALSE NEIGHBOUR: 'it returns false'. Refute it at one input. -/
def pdsShortsWrong : ChangeSpec := { name := "pdsShorts", fn := fun _ => fun
  | [d] => { results := [.lit (.bool false)], args := [d] }
  | _ => none }
def PdsShortsWrongFalsely : Prop := pdsShortsRow.holds Try.pinned (OpenSpec.ofChange pdsShortsWrong)

/-- 'stackyardlaw11.PdsSteps': WHATEVER THE INPUT: true; the input reads as it did. -/
def pdsStepsSpec : ChangeSpec := { name := "pdsSteps", fn := fun _ => fun
  | [d1, d2, d3] => { results := [.lit (.bool true)], args := [d1, d2, d3] }
  | _ => none }
def pdsStepsRow : OpenClaim := { program := "ytiiagjedhhmnbaa", sum := "74cdbc66a55320106b7363cb770779d10541716aeb6560a1c4333bbe612289c3", func := "stackyard/stackyardlaw11.PdsSteps", spec := "pdsSteps", unfollowed := true, recurses := true, loops := true, apart := false }
def PdsStepsSaid : Prop := pdsStepsRow.holds Try.pinned (OpenSpec.ofChange pdsStepsSpec)

/-- ITS FALSE NEIGHBOUR: 'it returns false'. Refute it at one input. -/
def pdsStepsWrong : ChangeSpec := { name := "pdsSteps", fn := fun _ => fun
  | [d1, d2, d3] => { results := [.lit (.bool false)], args := [d1, d2, d3] }
  | _ => none }
def PdsStepsWrongFalsely : Prop := pdsStepsRow.holds Try.pinned (OpenSpec.ofChange pdsStepsWrong)

/-- 'stackyardlaw11.PdsTops': WHATEVER THE INPUT: true; the input reads as it did. -/
def pdsTopsSpec : ChangeSpec := { name := "pdsTops", fn := fun _ => fun
  | [d1, d2, d3] => { results := [.lit (.bool true)], args := [d1, d2, d3] }
  | _ => none }
def pdsTopsRow : OpenClaim := { program := "ytiiagjedhhmnbaa", sum := "74cdbc66a55320106b7363cb770779d10541716aeb6560a1c4333bbe612289c3", func := "stackyard/stackyardlaw11.PdsTops", spec := "pdsTops", unfollowed := true, recurses := true, loops := true, apart := false }
def PdsTopsSaid : Prop := pdsTopsRow.holds Try.pinned (OpenSpec.ofChange pdsTopsSpec)

/-- ITS FALSE NEIGHBOUR: 'it returns false'. Refute it at one input. -/
def pdsTopsWrong : ChangeSpec := { name := "pdsTops", fn := fun _ => fun
  | [d1, d2, d3] => { results := [.lit (.bool false)], args := [d1, d2, d3] }
  | _ => none }
def PdsTopsWrongFalsely : Prop := pdsTopsRow.holds Try.pinned (OpenSpec.ofChange pdsTopsWrong)

/- THE SECOND FORM. 'bulk': how many values and letters a reading holds, each counted each time it is reached (what is shared counts as often as it is met; a slice's spare places count too). A statement '..UptoSaid' is the law's where the arguments, and the package variables that the reading takes, are together of bulk at most 1048576: NARROWER than '..Said'. Prove '..Said' where nothing that the law and all that it calls make is longer than what came in: it says more and counts as full. Else prove '..UptoSaid'. A law counts once. -/
mutual
def uptoBulk {H : Type} : DataW H → Nat
  | .lit (.string bytes) => bytes.length + 1
  | .lit _ => 1
  | .nil => 1
  | .ptr d => uptoBulk d + 1
  | .slice elems spare => uptoBulkAll elems + uptoBulkAll spare + 1
  | .agg parts => uptoBulkAll parts + 1
  | .iface _ d => uptoBulk d + 1
  | .map entries => uptoBulkEntries entries + 1
  | .held _ => 1
def uptoBulkAll {H : Type} : List (DataW H) → Nat
  | [] => 0
  | d :: r => uptoBulk d + uptoBulkAll r
def uptoBulkEntries {H : Type} : List (Lit × DataW H) → Nat
  | [] => 0
  | x :: r => uptoBulkEntry x + uptoBulkEntries r
def uptoBulkEntry {H : Type} : Lit × DataW H → Nat
  | (.string bytes, d) => bytes.length + uptoBulk d + 1
  | (_, d) => uptoBulk d + 1
 end
def uptoSmall : (H : Type) → List (DataW H) → Bool := fun _ ds => decide (uptoBulkAll ds ≤ 1048576)
def OpenSpec.upto (s : _root_.Go.ChangeSpec) : _root_.Go.OpenSpec := { _root_.Go.OpenSpec.ofChange s with cond := some uptoSmall }

/-- 'stackyardlaw11.PdsShorts', WHERE WHAT IT READS IS OF BULK AT MOST 1048576: true; the input reads as it did. -/
def pdsShortsUptoRow : OpenClaim := { program := "ytiiagjedhhmnbaa", sum := "74cdbc66a55320106b7363cb770779d10541716aeb6560a1c4333bbe612289c3", func := "stackyard/stackyardlaw11.PdsShorts", spec := "pdsShorts", unfollowed := true, recurses := true, loops := true, apart := false, narrowed := true }
def PdsShortsUptoSaid : Prop := pdsShortsUptoRow.holds Try.pinned (OpenSpec.upto pdsShortsSpec)

/-- 'stackyardlaw11.PdsSteps', WHERE WHAT IT READS IS OF BULK AT MOST 1048576: true; the input reads as it did. -/
def pdsStepsUptoRow : OpenClaim := { program := "ytiiagjedhhmnbaa", sum := "74cdbc66a55320106b7363cb770779d10541716aeb6560a1c4333bbe612289c3", func := "stackyard/stackyardlaw11.PdsSteps", spec := "pdsSteps", unfollowed := true, recurses := true, loops := true, apart := false, narrowed := true }
def PdsStepsUptoSaid : Prop := pdsStepsUptoRow.holds Try.pinned (OpenSpec.upto pdsStepsSpec)

/-- 'stackyardlaw11.PdsTops', WHERE WHAT IT READS IS OF BULK AT MOST 1048576: true; the input reads as it did. -/
def pdsTopsUptoRow : OpenClaim := { program := "ytiiagjedhhmnbaa", sum := "74cdbc66a55320106b7363cb770779d10541716aeb6560a1c4333bbe612289c3", func := "stackyard/stackyardlaw11.PdsTops", spec := "pdsTops", unfollowed := true, recurses := true, loops := true, apart := false, narrowed := true }
def PdsTopsUptoSaid : Prop := pdsTopsUptoRow.holds Try.pinned (OpenSpec.upto pdsTopsSpec)

end Rows
end Go.Proofs.Ytiiagjedhhmnbaa
