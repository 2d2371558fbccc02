/-
  NARROWER THAN 'FOR EVERY INPUT', by the rows' own cells (each row's printed sentence says how): QueryOnes: loops · QueryChecks: loops.
  DERIVED. THE GIVEN ROWS OF THIS SEAT. 2 by the template 'for every input the law returns true; each argument reads behind the call as it read before'; 0 by the template 'total and deterministic' (their statements: YtphfgnecmgpnaaaTotals.lean).
  GIVEN WITH THE SEED: the statements are not yours to turn. If you find one false, say at which input.
  Laid BY PROGRAM, IN A SANDBOX (cutbox-rows.mjs): the forced cells as the released guide's own fill.sh prints them over the translation 4d0d65923d9a9548… (all of the seat's roots in one cut). By AI agents, Wed Nov 11 2026. No macro, syntax, notation, axiom, sorry.
-/
import Derived.Test.YtphfgnecmgpnaaaChecked
import GoSem.Claim
import GoSem.ClaimJoined
import GoSem.ClaimMapViews
import Derived.JoinedTies
import Derived.KernelRfl
namespace Go.Proofs.Ytphfgnecmgpnaaa
/- THE CELL 'sum', in the pinned program and in every row, IS THE sha256 OF THE DUMP (.gsa) THAT YtphfgnecmgpnaaaProg.lean LOADS. Nothing in Lean hashes anything: it is a label: what it is worth is what the hold of that sum in a sandbox is worth. -/
noncomputable def Try.pinned : Pinned := { name := "ytphfgnecmgpnaaa", sum := "4d0d65923d9a9548647da69eb84143d0e94b88da546ee6877b59cf2f9782ce71", checked := Try.checked }
namespace Rows
def none {H : Type} : Left H := { results := [], args := [] }

/-- 'stackyardlaw14.QueryOnes': WHATEVER THE INPUT: true; the input reads as it did. -/
def queryOnesSpec : ChangeSpec := { name := "queryOnes", fn := fun _ => fun
  | [d1, d2, d3] => { results := [.lit (.bool true)], args := [d1, d2, d3] }
  | _ => none }
def queryOnesRow : OpenClaim := { program := "ytphfgnecmgpnaaa", sum := "4d0d65923d9a9548647da69eb84143d0e94b88da546ee6877b59cf2f9782ce71", func := "stackyard/stackyardlaw14.QueryOnes", spec := "queryOnes", unfollowed := true, recurses := true, loops := true, apart := false }
def QueryOnesSaid : Prop := queryOnesRow.holds Try.pinned (OpenSpec.ofChange queryOnesSpec)

/-- ITS FALSE NEIGHBOUR: 'it returns false'. Refute it at one input. -/
def queryOnesWrong : ChangeSpec := { name := "queryOnes", fn := fun _ => fun
  | [d1, d2, d3] => { results := [.lit (.bool false)], args := [d1, d2, d3] }
  | _ => none }
def QueryOnesWrongFalsely : Prop := queryOnesRow.holds Try.pinned (OpenSpec.ofChange queryOnesWrong)

/-- 'stackyardlaw14.QueryChecks': WHATEVER THE INPUT: true; the input reads as it did. -/
def queryChecksSpec : ChangeSpec := { name := "queryChecks", fn := fun _ => fun
  | [d1, d2] => { results := [.lit (.bool true)], args := [d1, d2] }
  | _ => none }
def queryChecksRow : OpenClaim := { program := "ytphfgnecmgpnaaa", sum := "4d0d65923d9a9548647da69eb84143d0e94b88da546ee6877b59cf2f9782ce71", func := "stackyard/stackyardlaw14.QueryChecks", spec := "queryChecks", unfollowed := true, recurses := true, loops := true, apart := false }
def QueryChecksSaid : Prop := queryChecksRow.holds Try.pinned (OpenSpec.ofChange queryChecksSpec)

/-- ITS FALSE NEIGHBOUR: 'it returns false'. Refute it at one input. -/
def queryChecksWrong : ChangeSpec := { name := "queryChecks", fn := fun _ => fun
  | [d1, d2] => { results := [.lit (.bool false)], args := [d1, d2] }
  | _ => none }
def QueryChecksWrongFalsely : Prop := queryChecksRow.holds Try.pinned (OpenSpec.ofChange queryChecksWrong)

/- THE SECOND FORM. 'bulk': how many values and letters a reading holds, each counted each time it is reached (what is shared counts as often as it is met; a slice's spare places count too). A statement '..UptoSaid' is the law's where the arguments, and the package variables that the reading takes, are together of bulk at most 1048576: NARROWER than '..Said'. Prove '..Said' where nothing that the law and all that it calls make is longer than what came in: it says more and counts as full. Else prove '..UptoSaid'. A law counts once. -/
mutual
def uptoBulk {H : Type} : DataW H → Nat
  | .lit (.string bytes) => bytes.length + 1
  | .lit _ => 1
  | .nil => 1
  | .ptr d => uptoBulk d + 1
  | .slice elems spare => uptoBulkAll elems + uptoBulkAll spare + 1
  | .agg parts => uptoBulkAll parts + 1
  | .iface _ d => uptoBulk d + 1
  | .map entries => uptoBulkEntries entries + 1
  | .held _ => 1
def uptoBulkAll {H : Type} : List (DataW H) → Nat
  | [] => 0
  | d :: r => uptoBulk d + uptoBulkAll r
def uptoBulkEntries {H : Type} : List (Lit × DataW H) → Nat
  | [] => 0
  | x :: r => uptoBulkEntry x + uptoBulkEntries r
def uptoBulkEntry {H : Type} : Lit × DataW H → Nat
  | (.string bytes, d) => bytes.length + uptoBulk d + 1
  | (_, d) => uptoBulk d + 1
 end
def uptoSmall : (H : Type) → List (DataW H) → Bool := fun _ ds => decide (uptoBulkAll ds ≤ 1048576)
def OpenSpec.upto (s : _root_.Go.ChangeSpec) : _root_.Go.OpenSpec := { _root_.Go.OpenSpec.ofChange s with cond := some uptoSmall }

/-- 'stackyardlaw14.QueryOnes', WHERE WHAT IT READS IS OF BULK AT MOST 1048576: true; the input reads as it did. -/
def queryOnesUptoRow : OpenClaim := { program := "ytphfgnecmgpnaaa", sum := "4d0d65923d9a9548647da69eb84143d0e94b88da546ee6877b59cf2f9782ce71", func := "stackyard/stackyardlaw14.QueryOnes", spec := "queryOnes", unfollowed := true, recurses := true, loops := true, apart := false, narrowed := true }
def QueryOnesUptoSaid : Prop := queryOnesUptoRow.holds Try.pinned (OpenSpec.upto queryOnesSpec)

/-- 'stackyardlaw14.QueryChecks', WHERE WHAT IT READS IS OF BULK AT MOST 1048576: true; the input reads as it did. -/
def queryChecksUptoRow : OpenClaim := { program := "ytphfgnecmgpnaaa", sum := "4d0d65923d9a9548647da69eb84143d0e94b88da546ee6877b59cf2f9782ce71", func := "stackyard/stackyardlaw14.QueryChecks", spec := "queryChecks", unfollowed := true, recurses := true, loops := true, apart := false, narrowed := true }
def QueryChecksUptoSaid : Prop := queryChecksUptoRow.holds Try.pinned (OpenSpec.upto queryChecksSpec)

end Rows
end Go.Proofs.Ytphfgnecmgpnaaa
