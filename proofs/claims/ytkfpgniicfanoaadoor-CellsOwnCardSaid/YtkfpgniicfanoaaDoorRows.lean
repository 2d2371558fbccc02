/-
  NARROWER THAN 'FOR EVERY INPUT', by the rows' own cells (each row's printed sentence says how): CellsThen: laid · CellsOver: laid · CellsOwn: laid · CellsChecks: laid · CellsMakes: laid · CellsAlgebra: laid · CellsBoth: laid · CellsValues: laid · CellsRow: laid.
  DERIVED. THE GIVEN ROWS OF THIS SEAT. 9 by the template 'for every input the law returns true; each argument reads behind the call as it read before'; 0 by the template 'total and deterministic' (their statements: YtkfpgniicfanoaaDoorTotals.lean).
  GIVEN WITH THE SEED: the statements are not yours to turn. If you find one false, say at which input.
  Laid BY PROGRAM, IN A SANDBOX (cutbox-rows.mjs): the forced cells as the released guide's own fill.sh prints them over the translation 54d37961be8266b5… (all of the seat's roots in one cut). By AI agents, Wed Nov 11 2026. No macro, syntax, notation, axiom, sorry.
-/
import Derived.Test.YtkfpgniicfanoaaDoorChecked
import GoSem.Claim
import GoSem.ClaimJoined
import GoSem.ClaimMapViews
import Derived.JoinedTies
import Derived.KernelRfl
namespace Go.Proofs.YtkfpgniicfanoaaDoor
/- THE CELL 'sum', in the pinned program and in every row, IS THE sha256 OF THE DUMP (.gsa) THAT YtkfpgniicfanoaaDoorProg.lean LOADS. Nothing in Lean hashes anything: it is a label: what it is worth is what the hold of that sum in a sandbox is worth. -/
noncomputable def Tryd.pinned : Pinned := { name := "ytkfpgniicfanoaadoor", sum := "54d37961be8266b5bffc42af71df4f431b55531addf259d112626011c97e397b", checked := Tryd.checked }
namespace Rows
def none {H : Type} : Left H := { results := [], args := [] }

/- WHAT THE LISTED PACKAGE-LEVEL VARIABLES READ AS WHEN THE CALL BEGINS. Each datum BY PROGRAM (the guide's laid-datum.mjs) off the statement by which the dump's own 'gosem.cut.vars' lays the variable. In a bare row this is a premise. The card (YtkfpgniicfanoaaDoorCards.lean) ties it to the program's text. -/
def laid_math_bits_deBruijn32tab {H : Type} : DataW H := .agg [.lit (.int .u8 0), .lit (.int .u8 1), .lit (.int .u8 28), .lit (.int .u8 2), .lit (.int .u8 29), .lit (.int .u8 14), .lit (.int .u8 24), .lit (.int .u8 3), .lit (.int .u8 30), .lit (.int .u8 22), .lit (.int .u8 20), .lit (.int .u8 15), .lit (.int .u8 25), .lit (.int .u8 17), .lit (.int .u8 4), .lit (.int .u8 8), .lit (.int .u8 31), .lit (.int .u8 27), .lit (.int .u8 13), .lit (.int .u8 23), .lit (.int .u8 21), .lit (.int .u8 19), .lit (.int .u8 16), .lit (.int .u8 7), .lit (.int .u8 26), .lit (.int .u8 12), .lit (.int .u8 18), .lit (.int .u8 6), .lit (.int .u8 11), .lit (.int .u8 5), .lit (.int .u8 10), .lit (.int .u8 9)]
def laid_math_bits_deBruijn64tab {H : Type} : DataW H := .agg [.lit (.int .u8 0), .lit (.int .u8 1), .lit (.int .u8 56), .lit (.int .u8 2), .lit (.int .u8 57), .lit (.int .u8 49), .lit (.int .u8 28), .lit (.int .u8 3), .lit (.int .u8 61), .lit (.int .u8 58), .lit (.int .u8 42), .lit (.int .u8 50), .lit (.int .u8 38), .lit (.int .u8 29), .lit (.int .u8 17), .lit (.int .u8 4), .lit (.int .u8 62), .lit (.int .u8 47), .lit (.int .u8 59), .lit (.int .u8 36), .lit (.int .u8 45), .lit (.int .u8 43), .lit (.int .u8 51), .lit (.int .u8 22), .lit (.int .u8 53), .lit (.int .u8 39), .lit (.int .u8 33), .lit (.int .u8 30), .lit (.int .u8 24), .lit (.int .u8 18), .lit (.int .u8 12), .lit (.int .u8 5), .lit (.int .u8 63), .lit (.int .u8 55), .lit (.int .u8 48), .lit (.int .u8 27), .lit (.int .u8 60), .lit (.int .u8 41), .lit (.int .u8 37), .lit (.int .u8 16), .lit (.int .u8 46), .lit (.int .u8 35), .lit (.int .u8 44), .lit (.int .u8 21), .lit (.int .u8 52), .lit (.int .u8 32), .lit (.int .u8 23), .lit (.int .u8 11), .lit (.int .u8 54), .lit (.int .u8 26), .lit (.int .u8 40), .lit (.int .u8 15), .lit (.int .u8 34), .lit (.int .u8 20), .lit (.int .u8 31), .lit (.int .u8 10), .lit (.int .u8 25), .lit (.int .u8 14), .lit (.int .u8 19), .lit (.int .u8 9), .lit (.int .u8 13), .lit (.int .u8 8), .lit (.int .u8 7), .lit (.int .u8 6)]
def laid_internal_strconv_uint64pow10 {H : Type} : DataW H := .agg [.lit (.int .u64 1), .lit (.int .u64 10), .lit (.int .u64 100), .lit (.int .u64 1000), .lit (.int .u64 10000), .lit (.int .u64 100000), .lit (.int .u64 1000000), .lit (.int .u64 10000000), .lit (.int .u64 100000000), .lit (.int .u64 1000000000), .lit (.int .u64 10000000000), .lit (.int .u64 100000000000), .lit (.int .u64 1000000000000), .lit (.int .u64 10000000000000), .lit (.int .u64 100000000000000), .lit (.int .u64 1000000000000000), .lit (.int .u64 10000000000000000), .lit (.int .u64 100000000000000000), .lit (.int .u64 1000000000000000000), .lit (.int .u64 10000000000000000000)]

/-- 'stackyardlaw04.CellsThen': WHATEVER THE INPUT: true; the input reads as it did. -/
def cellsThenSpec : ChangeSpec := { name := "cellsThen", fn := fun _ => fun
  | [d1, d2, d3] => { results := [.lit (.bool true)], args := [d1, d2, d3] }
  | _ => none }
def cellsThenRow : OpenClaim := { program := "ytkfpgniicfanoaadoor", sum := "54d37961be8266b5bffc42af71df4f431b55531addf259d112626011c97e397b", func := "stackyard/stackyardlaw04.CellsThen", spec := "cellsThen", inPlace := ["internal/abi.NoEscape", "internal/bytealg.MakeNoZero"], unfollowed := true, recurses := true, named := ["internal/strconv.uint64pow10", "math/bits.deBruijn32tab", "math/bits.deBruijn64tab"], apart := false, laid := [("math/bits.deBruijn32tab", laid_math_bits_deBruijn32tab), ("math/bits.deBruijn64tab", laid_math_bits_deBruijn64tab), ("internal/strconv.uint64pow10", laid_internal_strconv_uint64pow10)] }
def CellsThenSaid : Prop := cellsThenRow.holds Tryd.pinned (OpenSpec.ofChange cellsThenSpec)

/-- ITS FALSE NEIGHBOUR: 'it returns false'. Refute it at one input. -/
def cellsThenWrong : ChangeSpec := { name := "cellsThen", fn := fun _ => fun
  | [d1, d2, d3] => { results := [.lit (.bool false)], args := [d1, d2, d3] }
  | _ => none }
def CellsThenWrongFalsely : Prop := cellsThenRow.holds Tryd.pinned (OpenSpec.ofChange cellsThenWrong)

/-- 'stackyardlaw04.CellsOver': WHATEVER THE INPUT: true; the input reads as it did. -/
def cellsOverSpec : ChangeSpec := { name := "cellsOver", fn := fun _ => fun
  | [d1, d2, d3, d4] => { results := [.lit (.bool true)], args := [d1, d2, d3, d4] }
  | _ => none }
def cellsOverRow : OpenClaim := { program := "ytkfpgniicfanoaadoor", sum := "54d37961be8266b5bffc42af71df4f431b55531addf259d112626011c97e397b", func := "stackyard/stackyardlaw04.CellsOver", spec := "cellsOver", inPlace := ["internal/abi.NoEscape", "internal/bytealg.MakeNoZero"], unfollowed := true, recurses := true, named := ["internal/strconv.uint64pow10", "math/bits.deBruijn32tab", "math/bits.deBruijn64tab"], apart := false, laid := [("math/bits.deBruijn32tab", laid_math_bits_deBruijn32tab), ("math/bits.deBruijn64tab", laid_math_bits_deBruijn64tab), ("internal/strconv.uint64pow10", laid_internal_strconv_uint64pow10)] }
def CellsOverSaid : Prop := cellsOverRow.holds Tryd.pinned (OpenSpec.ofChange cellsOverSpec)

/-- ITS FALSE NEIGHBOUR: 'it returns false'. Refute it at one input. -/
def cellsOverWrong : ChangeSpec := { name := "cellsOver", fn := fun _ => fun
  | [d1, d2, d3, d4] => { results := [.lit (.bool false)], args := [d1, d2, d3, d4] }
  | _ => none }
def CellsOverWrongFalsely : Prop := cellsOverRow.holds Tryd.pinned (OpenSpec.ofChange cellsOverWrong)

/-- 'stackyardlaw04.CellsOwn': WHATEVER THE INPUT: true; the input reads as it did. -/
def cellsOwnSpec : ChangeSpec := { name := "cellsOwn", fn := fun _ => fun
  | [d1, d2, d3] => { results := [.lit (.bool true)], args := [d1, d2, d3] }
  | _ => none }
def cellsOwnRow : OpenClaim := { program := "ytkfpgniicfanoaadoor", sum := "54d37961be8266b5bffc42af71df4f431b55531addf259d112626011c97e397b", func := "stackyard/stackyardlaw04.CellsOwn", spec := "cellsOwn", inPlace := ["internal/abi.NoEscape", "internal/bytealg.MakeNoZero"], unfollowed := true, recurses := true, named := ["internal/strconv.uint64pow10", "math/bits.deBruijn32tab", "math/bits.deBruijn64tab"], apart := false, laid := [("math/bits.deBruijn32tab", laid_math_bits_deBruijn32tab), ("math/bits.deBruijn64tab", laid_math_bits_deBruijn64tab), ("internal/strconv.uint64pow10", laid_internal_strconv_uint64pow10)] }
def CellsOwnSaid : Prop := cellsOwnRow.holds Tryd.pinned (OpenSpec.ofChange cellsOwnSpec)

/-- ITS FALSE NEIGHBOUR: 'it returns false'. Refute it at one input. -/
def cellsOwnWrong : ChangeSpec := { name := "cellsOwn", fn := fun _ => fun
  | [d1, d2, d3] => { results := [.lit (.bool false)], args := [d1, d2, d3] }
  | _ => none }
def CellsOwnWrongFalsely : Prop := cellsOwnRow.holds Tryd.pinned (OpenSpec.ofChange cellsOwnWrong)

/-- 'stackyardlaw04.CellsChecks': WHATEVER THE INPUT: true; the input reads as it did. -/
def cellsChecksSpec : ChangeSpec := { name := "cellsChecks", fn := fun _ => fun
  | [d1, d2, d3] => { results := [.lit (.bool true)], args := [d1, d2, d3] }
  | _ => none }
def cellsChecksRow : OpenClaim := { program := "ytkfpgniicfanoaadoor", sum := "54d37961be8266b5bffc42af71df4f431b55531addf259d112626011c97e397b", func := "stackyard/stackyardlaw04.CellsChecks", spec := "cellsChecks", inPlace := ["internal/abi.NoEscape", "internal/bytealg.MakeNoZero"], unfollowed := true, recurses := true, named := ["internal/strconv.uint64pow10", "math/bits.deBruijn32tab", "math/bits.deBruijn64tab"], apart := false, laid := [("math/bits.deBruijn32tab", laid_math_bits_deBruijn32tab), ("math/bits.deBruijn64tab", laid_math_bits_deBruijn64tab), ("internal/strconv.uint64pow10", laid_internal_strconv_uint64pow10)] }
def CellsChecksSaid : Prop := cellsChecksRow.holds Tryd.pinned (OpenSpec.ofChange cellsChecksSpec)

/-- ITS FALSE NEIGHBOUR: 'it returns false'. Refute it at one input. -/
def cellsChecksWrong : ChangeSpec := { name := "cellsChecks", fn := fun _ => fun
  | [d1, d2, d3] => { results := [.lit (.bool false)], args := [d1, d2, d3] }
  | _ => none }
def CellsChecksWrongFalsely : Prop := cellsChecksRow.holds Tryd.pinned (OpenSpec.ofChange cellsChecksWrong)

/-- 'stackyardlaw04.CellsMakes': WHATEVER THE INPUT: true; the input reads as it did. -/
def cellsMakesSpec : ChangeSpec := { name := "cellsMakes", fn := fun _ => fun
  | [d1, d2, d3, d4] => { results := [.lit (.bool true)], args := [d1, d2, d3, d4] }
  | _ => none }
def cellsMakesRow : OpenClaim := { program := "ytkfpgniicfanoaadoor", sum := "54d37961be8266b5bffc42af71df4f431b55531addf259d112626011c97e397b", func := "stackyard/stackyardlaw04.CellsMakes", spec := "cellsMakes", inPlace := ["internal/abi.NoEscape", "internal/bytealg.MakeNoZero"], unfollowed := true, recurses := true, named := ["internal/strconv.uint64pow10", "math/bits.deBruijn32tab", "math/bits.deBruijn64tab"], apart := false, laid := [("math/bits.deBruijn32tab", laid_math_bits_deBruijn32tab), ("math/bits.deBruijn64tab", laid_math_bits_deBruijn64tab), ("internal/strconv.uint64pow10", laid_internal_strconv_uint64pow10)] }
def CellsMakesSaid : Prop := cellsMakesRow.holds Tryd.pinned (OpenSpec.ofChange cellsMakesSpec)

/-- ITS FALSE NEIGHBOUR: 'it returns false'. Refute it at one input. -/
def cellsMakesWrong : ChangeSpec := { name := "cellsMakes", fn := fun _ => fun
  | [d1, d2, d3, d4] => { results := [.lit (.bool false)], args := [d1, d2, d3, d4] }
  | _ => none }
def CellsMakesWrongFalsely : Prop := cellsMakesRow.holds Tryd.pinned (OpenSpec.ofChange cellsMakesWrong)

/-- 'stackyardlaw04.CellsAlgebra': WHATEVER THE INPUT: true; the input reads as it did. -/
def cellsAlgebraSpec : ChangeSpec := { name := "cellsAlgebra", fn := fun _ => fun
  | [d1, d2, d3, d4] => { results := [.lit (.bool true)], args := [d1, d2, d3, d4] }
  | _ => none }
def cellsAlgebraRow : OpenClaim := { program := "ytkfpgniicfanoaadoor", sum := "54d37961be8266b5bffc42af71df4f431b55531addf259d112626011c97e397b", func := "stackyard/stackyardlaw04.CellsAlgebra", spec := "cellsAlgebra", inPlace := ["internal/abi.NoEscape", "internal/bytealg.MakeNoZero"], unfollowed := true, recurses := true, named := ["internal/strconv.uint64pow10", "math/bits.deBruijn32tab", "math/bits.deBruijn64tab"], apart := false, laid := [("math/bits.deBruijn32tab", laid_math_bits_deBruijn32tab), ("math/bits.deBruijn64tab", laid_math_bits_deBruijn64tab), ("internal/strconv.uint64pow10", laid_internal_strconv_uint64pow10)] }
def CellsAlgebraSaid : Prop := cellsAlgebraRow.holds Tryd.pinned (OpenSpec.ofChange cellsAlgebraSpec)

/-- ITS FALSE NEIGHBOUR: 'it returns false'. Refute it at one input. -/
def cellsAlgebraWrong : ChangeSpec := { name := "cellsAlgebra", fn := fun _ => fun
  | [d1, d2, d3, d4] => { results := [.lit (.bool false)], args := [d1, d2, d3, d4] }
  | _ => none }
def CellsAlgebraWrongFalsely : Prop := cellsAlgebraRow.holds Tryd.pinned (OpenSpec.ofChange cellsAlgebraWrong)

/-- 'stackyardlaw04.CellsBoth': WHATEVER THE INPUT: true; the input reads as it did. -/
def cellsBothSpec : ChangeSpec := { name := "cellsBoth", fn := fun _ => fun
  | [d1, d2, d3] => { results := [.lit (.bool true)], args := [d1, d2, d3] }
  | _ => none }
def cellsBothRow : OpenClaim := { program := "ytkfpgniicfanoaadoor", sum := "54d37961be8266b5bffc42af71df4f431b55531addf259d112626011c97e397b", func := "stackyard/stackyardlaw04.CellsBoth", spec := "cellsBoth", inPlace := ["internal/abi.NoEscape", "internal/bytealg.MakeNoZero"], unfollowed := true, recurses := true, named := ["internal/strconv.uint64pow10", "math/bits.deBruijn32tab", "math/bits.deBruijn64tab"], apart := false, laid := [("math/bits.deBruijn32tab", laid_math_bits_deBruijn32tab), ("math/bits.deBruijn64tab", laid_math_bits_deBruijn64tab), ("internal/strconv.uint64pow10", laid_internal_strconv_uint64pow10)] }
def CellsBothSaid : Prop := cellsBothRow.holds Tryd.pinned (OpenSpec.ofChange cellsBothSpec)

/-- ITS FALSE NEIGHBOUR: 'it returns false'. Refute it at one input. -/
def cellsBothWrong : ChangeSpec := { name := "cellsBoth", fn := fun _ => fun
  | [d1, d2, d3] => { results := [.lit (.bool false)], args := [d1, d2, d3] }
  | _ => none }
def CellsBothWrongFalsely : Prop := cellsBothRow.holds Tryd.pinned (OpenSpec.ofChange cellsBothWrong)

/-- 'stackyardlaw04.CellsValues': WHATEVER THE INPUT: true; the input reads as it did. -/
def cellsValuesSpec : ChangeSpec := { name := "cellsValues", fn := fun _ => fun
  | [d1, d2, d3, d4] => { results := [.lit (.bool true)], args := [d1, d2, d3, d4] }
  | _ => none }
def cellsValuesRow : OpenClaim := { program := "ytkfpgniicfanoaadoor", sum := "54d37961be8266b5bffc42af71df4f431b55531addf259d112626011c97e397b", func := "stackyard/stackyardlaw04.CellsValues", spec := "cellsValues", inPlace := ["internal/abi.NoEscape", "internal/bytealg.MakeNoZero"], unfollowed := true, recurses := true, named := ["internal/strconv.uint64pow10", "math/bits.deBruijn32tab", "math/bits.deBruijn64tab"], apart := false, laid := [("math/bits.deBruijn32tab", laid_math_bits_deBruijn32tab), ("math/bits.deBruijn64tab", laid_math_bits_deBruijn64tab), ("internal/strconv.uint64pow10", laid_internal_strconv_uint64pow10)] }
def CellsValuesSaid : Prop := cellsValuesRow.holds Tryd.pinned (OpenSpec.ofChange cellsValuesSpec)

/-- ITS FALSE NEIGHBOUR: 'it returns false'. Refute it at one input. -/
def cellsValuesWrong : ChangeSpec := { name := "cellsValues", fn := fun _ => fun
  | [d1, d2, d3, d4] => { results := [.lit (.bool false)], args := [d1, d2, d3, d4] }
  | _ => none }
def CellsValuesWrongFalsely : Prop := cellsValuesRow.holds Tryd.pinned (OpenSpec.ofChange cellsValuesWrong)

/-- 'stackyardlaw04.CellsRow': WHATEVER THE INPUT: true; the input reads as it did. -/
def cellsRowSpec : ChangeSpec := { name := "cellsRow", fn := fun _ => fun
  | [d1, d2] => { results := [.lit (.bool true)], args := [d1, d2] }
  | _ => none }
def cellsRowRow : OpenClaim := { program := "ytkfpgniicfanoaadoor", sum := "54d37961be8266b5bffc42af71df4f431b55531addf259d112626011c97e397b", func := "stackyard/stackyardlaw04.CellsRow", spec := "cellsRow", inPlace := ["internal/abi.NoEscape", "internal/bytealg.MakeNoZero"], unfollowed := true, recurses := true, named := ["internal/strconv.uint64pow10", "math/bits.deBruijn32tab", "math/bits.deBruijn64tab"], apart := false, laid := [("math/bits.deBruijn32tab", laid_math_bits_deBruijn32tab), ("math/bits.deBruijn64tab", laid_math_bits_deBruijn64tab), ("internal/strconv.uint64pow10", laid_internal_strconv_uint64pow10)] }
def CellsRowSaid : Prop := cellsRowRow.holds Tryd.pinned (OpenSpec.ofChange cellsRowSpec)

/-- ITS FALSE NEIGHBOUR: 'it returns false'. Refute it at one input. -/
def cellsRowWrong : ChangeSpec := { name := "cellsRow", fn := fun _ => fun
  | [d1, d2] => { results := [.lit (.bool false)], args := [d1, d2] }
  | _ => none }
def CellsRowWrongFalsely : Prop := cellsRowRow.holds Tryd.pinned (OpenSpec.ofChange cellsRowWrong)

/- THE SECOND FORM. 'bulk': how many values and letters a reading holds, each counted each time it is reached (what is shared counts as often as it is met; a slice's spare places count too). A statement '..UptoSaid' is the law's where the arguments, and the package variables that the reading takes, are together of bulk at most 1048576: NARROWER than '..Said'. Prove '..Said' where nothing that the law and all that it calls make is longer than what came in: it says more and counts as full. Else prove '..UptoSaid'. A law counts once. -/
mutual
def uptoBulk {H : Type} : DataW H → Nat
  | .lit (.string bytes) => bytes.length + 1
  | .lit _ => 1
  | .nil => 1
  | .ptr d => uptoBulk d + 1
  | .slice elems spare => uptoBulkAll elems + uptoBulkAll spare + 1
  | .agg parts => uptoBulkAll parts + 1
  | .iface _ d => uptoBulk d + 1
  | .map entries => uptoBulkEntries entries + 1
  | .held _ => 1
def uptoBulkAll {H : Type} : List (DataW H) → Nat
  | [] => 0
  | d :: r => uptoBulk d + uptoBulkAll r
def uptoBulkEntries {H : Type} : List (Lit × DataW H) → Nat
  | [] => 0
  | x :: r => uptoBulkEntry x + uptoBulkEntries r
def uptoBulkEntry {H : Type} : Lit × DataW H → Nat
  | (.string bytes, d) => bytes.length + uptoBulk d + 1
  | (_, d) => uptoBulk d + 1
 end
def uptoSmall : (H : Type) → List (DataW H) → Bool := fun _ ds => decide (uptoBulkAll ds ≤ 1048576)
def OpenSpec.upto (s : _root_.Go.ChangeSpec) : _root_.Go.OpenSpec := { _root_.Go.OpenSpec.ofChange s with cond := some uptoSmall }

/-- 'stackyardlaw04.CellsThen', WHERE WHAT IT READS IS OF BULK AT MOST 1048576: true; the input reads as it did. -/
def cellsThenUptoRow : OpenClaim := { program := "ytkfpgniicfanoaadoor", sum := "54d37961be8266b5bffc42af71df4f431b55531addf259d112626011c97e397b", func := "stackyard/stackyardlaw04.CellsThen", spec := "cellsThen", inPlace := ["internal/abi.NoEscape", "internal/bytealg.MakeNoZero"], unfollowed := true, recurses := true, named := ["internal/strconv.uint64pow10", "math/bits.deBruijn32tab", "math/bits.deBruijn64tab"], apart := false, laid := [("math/bits.deBruijn32tab", laid_math_bits_deBruijn32tab), ("math/bits.deBruijn64tab", laid_math_bits_deBruijn64tab), ("internal/strconv.uint64pow10", laid_internal_strconv_uint64pow10)], narrowed := true }
def CellsThenUptoSaid : Prop := cellsThenUptoRow.holds Tryd.pinned (OpenSpec.upto cellsThenSpec)

/-- 'stackyardlaw04.CellsOver', WHERE WHAT IT READS IS OF BULK AT MOST 1048576: true; the input reads as it did. -/
def cellsOverUptoRow : OpenClaim := { program := "ytkfpgniicfanoaadoor", sum := "54d37961be8266b5bffc42af71df4f431b55531addf259d112626011c97e397b", func := "stackyard/stackyardlaw04.CellsOver", spec := "cellsOver", inPlace := ["internal/abi.NoEscape", "internal/bytealg.MakeNoZero"], unfollowed := true, recurses := true, named := ["internal/strconv.uint64pow10", "math/bits.deBruijn32tab", "math/bits.deBruijn64tab"], apart := false, laid := [("math/bits.deBruijn32tab", laid_math_bits_deBruijn32tab), ("math/bits.deBruijn64tab", laid_math_bits_deBruijn64tab), ("internal/strconv.uint64pow10", laid_internal_strconv_uint64pow10)], narrowed := true }
def CellsOverUptoSaid : Prop := cellsOverUptoRow.holds Tryd.pinned (OpenSpec.upto cellsOverSpec)

/-- 'stackyardlaw04.CellsOwn', WHERE WHAT IT READS IS OF BULK AT MOST 1048576: true; the input reads as it did. -/
def cellsOwnUptoRow : OpenClaim := { program := "ytkfpgniicfanoaadoor", sum := "54d37961be8266b5bffc42af71df4f431b55531addf259d112626011c97e397b", func := "stackyard/stackyardlaw04.CellsOwn", spec := "cellsOwn", inPlace := ["internal/abi.NoEscape", "internal/bytealg.MakeNoZero"], unfollowed := true, recurses := true, named := ["internal/strconv.uint64pow10", "math/bits.deBruijn32tab", "math/bits.deBruijn64tab"], apart := false, laid := [("math/bits.deBruijn32tab", laid_math_bits_deBruijn32tab), ("math/bits.deBruijn64tab", laid_math_bits_deBruijn64tab), ("internal/strconv.uint64pow10", laid_internal_strconv_uint64pow10)], narrowed := true }
def CellsOwnUptoSaid : Prop := cellsOwnUptoRow.holds Tryd.pinned (OpenSpec.upto cellsOwnSpec)

/-- 'stackyardlaw04.CellsChecks', WHERE WHAT IT READS IS OF BULK AT MOST 1048576: true; the input reads as it did. -/
def cellsChecksUptoRow : OpenClaim := { program := "ytkfpgniicfanoaadoor", sum := "54d37961be8266b5bffc42af71df4f431b55531addf259d112626011c97e397b", func := "stackyard/stackyardlaw04.CellsChecks", spec := "cellsChecks", inPlace := ["internal/abi.NoEscape", "internal/bytealg.MakeNoZero"], unfollowed := true, recurses := true, named := ["internal/strconv.uint64pow10", "math/bits.deBruijn32tab", "math/bits.deBruijn64tab"], apart := false, laid := [("math/bits.deBruijn32tab", laid_math_bits_deBruijn32tab), ("math/bits.deBruijn64tab", laid_math_bits_deBruijn64tab), ("internal/strconv.uint64pow10", laid_internal_strconv_uint64pow10)], narrowed := true }
def CellsChecksUptoSaid : Prop := cellsChecksUptoRow.holds Tryd.pinned (OpenSpec.upto cellsChecksSpec)

/-- 'stackyardlaw04.CellsMakes', WHERE WHAT IT READS IS OF BULK AT MOST 1048576: true; the input reads as it did. -/
def cellsMakesUptoRow : OpenClaim := { program := "ytkfpgniicfanoaadoor", sum := "54d37961be8266b5bffc42af71df4f431b55531addf259d112626011c97e397b", func := "stackyard/stackyardlaw04.CellsMakes", spec := "cellsMakes", inPlace := ["internal/abi.NoEscape", "internal/bytealg.MakeNoZero"], unfollowed := true, recurses := true, named := ["internal/strconv.uint64pow10", "math/bits.deBruijn32tab", "math/bits.deBruijn64tab"], apart := false, laid := [("math/bits.deBruijn32tab", laid_math_bits_deBruijn32tab), ("math/bits.deBruijn64tab", laid_math_bits_deBruijn64tab), ("internal/strconv.uint64pow10", laid_internal_strconv_uint64pow10)], narrowed := true }
def CellsMakesUptoSaid : Prop := cellsMakesUptoRow.holds Tryd.pinned (OpenSpec.upto cellsMakesSpec)

/-- 'stackyardlaw04.CellsAlgebra', WHERE WHAT IT READS IS OF BULK AT MOST 1048576: true; the input reads as it did. -/
def cellsAlgebraUptoRow : OpenClaim := { program := "ytkfpgniicfanoaadoor", sum := "54d37961be8266b5bffc42af71df4f431b55531addf259d112626011c97e397b", func := "stackyard/stackyardlaw04.CellsAlgebra", spec := "cellsAlgebra", inPlace := ["internal/abi.NoEscape", "internal/bytealg.MakeNoZero"], unfollowed := true, recurses := true, named := ["internal/strconv.uint64pow10", "math/bits.deBruijn32tab", "math/bits.deBruijn64tab"], apart := false, laid := [("math/bits.deBruijn32tab", laid_math_bits_deBruijn32tab), ("math/bits.deBruijn64tab", laid_math_bits_deBruijn64tab), ("internal/strconv.uint64pow10", laid_internal_strconv_uint64pow10)], narrowed := true }
def CellsAlgebraUptoSaid : Prop := cellsAlgebraUptoRow.holds Tryd.pinned (OpenSpec.upto cellsAlgebraSpec)

/-- 'stackyardlaw04.CellsBoth', WHERE WHAT IT READS IS OF BULK AT MOST 1048576: true; the input reads as it did. -/
def cellsBothUptoRow : OpenClaim := { program := "ytkfpgniicfanoaadoor", sum := "54d37961be8266b5bffc42af71df4f431b55531addf259d112626011c97e397b", func := "stackyard/stackyardlaw04.CellsBoth", spec := "cellsBoth", inPlace := ["internal/abi.NoEscape", "internal/bytealg.MakeNoZero"], unfollowed := true, recurses := true, named := ["internal/strconv.uint64pow10", "math/bits.deBruijn32tab", "math/bits.deBruijn64tab"], apart := false, laid := [("math/bits.deBruijn32tab", laid_math_bits_deBruijn32tab), ("math/bits.deBruijn64tab", laid_math_bits_deBruijn64tab), ("internal/strconv.uint64pow10", laid_internal_strconv_uint64pow10)], narrowed := true }
def CellsBothUptoSaid : Prop := cellsBothUptoRow.holds Tryd.pinned (OpenSpec.upto cellsBothSpec)

/-- 'stackyardlaw04.CellsValues', WHERE WHAT IT READS IS OF BULK AT MOST 1048576: true; the input reads as it did. -/
def cellsValuesUptoRow : OpenClaim := { program := "ytkfpgniicfanoaadoor", sum := "54d37961be8266b5bffc42af71df4f431b55531addf259d112626011c97e397b", func := "stackyard/stackyardlaw04.CellsValues", spec := "cellsValues", inPlace := ["internal/abi.NoEscape", "internal/bytealg.MakeNoZero"], unfollowed := true, recurses := true, named := ["internal/strconv.uint64pow10", "math/bits.deBruijn32tab", "math/bits.deBruijn64tab"], apart := false, laid := [("math/bits.deBruijn32tab", laid_math_bits_deBruijn32tab), ("math/bits.deBruijn64tab", laid_math_bits_deBruijn64tab), ("internal/strconv.uint64pow10", laid_internal_strconv_uint64pow10)], narrowed := true }
def CellsValuesUptoSaid : Prop := cellsValuesUptoRow.holds Tryd.pinned (OpenSpec.upto cellsValuesSpec)

/-- 'stackyardlaw04.CellsRow', WHERE WHAT IT READS IS OF BULK AT MOST 1048576: true; the input reads as it did. -/
def cellsRowUptoRow : OpenClaim := { program := "ytkfpgniicfanoaadoor", sum := "54d37961be8266b5bffc42af71df4f431b55531addf259d112626011c97e397b", func := "stackyard/stackyardlaw04.CellsRow", spec := "cellsRow", inPlace := ["internal/abi.NoEscape", "internal/bytealg.MakeNoZero"], unfollowed := true, recurses := true, named := ["internal/strconv.uint64pow10", "math/bits.deBruijn32tab", "math/bits.deBruijn64tab"], apart := false, laid := [("math/bits.deBruijn32tab", laid_math_bits_deBruijn32tab), ("math/bits.deBruijn64tab", laid_math_bits_deBruijn64tab), ("internal/strconv.uint64pow10", laid_internal_strconv_uint64pow10)], narrowed := true }
def CellsRowUptoSaid : Prop := cellsRowUptoRow.holds Tryd.pinned (OpenSpec.upto cellsRowSpec)

end Rows
end Go.Proofs.YtkfpgniicfanoaaDoor
