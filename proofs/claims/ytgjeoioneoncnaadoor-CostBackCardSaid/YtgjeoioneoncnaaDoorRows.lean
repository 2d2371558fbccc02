/-
  NARROWER THAN 'FOR EVERY INPUT', by the rows' own cells (each row's printed sentence says how): CostLeasts: laid · CostSemiring: laid · CostOrder: laid · CostRow: laid · CostChecks: laid · CostTexts: laid · CostBack: laid.
  DERIVED. THE GIVEN ROWS OF THIS SEAT. 7 by the template 'for every input the law returns true; each argument reads behind the call as it read before'; 0 by the template 'total and deterministic' (their statements: YtgjeoioneoncnaaDoorTotals.lean).
  GIVEN WITH THE SEED: the statements are not yours to turn. If you find one false, say at which input.
  Laid BY PROGRAM, IN A SANDBOX (cutbox-rows.mjs): the forced cells as the released guide's own fill.sh prints them over the translation ff5713cb9fbdfc6a… (all of the seat's roots in one cut). By AI agents, Wed Nov 11 2026. No macro, syntax, notation, axiom, sorry.
-/
import Derived.Test.YtgjeoioneoncnaaDoorChecked
import GoSem.Claim
import GoSem.ClaimJoined
import GoSem.ClaimMapViews
import Derived.JoinedTies
import Derived.KernelRfl
namespace Go.Proofs.YtgjeoioneoncnaaDoor
/- THE CELL 'sum', in the pinned program and in every row, IS THE sha256 OF THE DUMP (.gsa) THAT YtgjeoioneoncnaaDoorProg.lean LOADS. Nothing in Lean hashes anything: it is a label: what it is worth is what the hold of that sum in a sandbox is worth. -/
noncomputable def Tryd.pinned : Pinned := { name := "ytgjeoioneoncnaadoor", sum := "ff5713cb9fbdfc6a4217fbfecc882dabf685e785068be0052e97e25a64e60134", checked := Tryd.checked }
namespace Rows
def none {H : Type} : Left H := { results := [], args := [] }

/- WHAT THE LISTED PACKAGE-LEVEL VARIABLES READ AS WHEN THE CALL BEGINS. Each datum BY PROGRAM (the guide's laid-datum.mjs) off the statement by which the dump's own 'gosem.cut.vars' lays the variable. In a bare row this is a premise. The card (YtgjeoioneoncnaaDoorCards.lean) ties it to the program's text. -/
def laid_math_bits_deBruijn32tab {H : Type} : DataW H := .agg [.lit (.int .u8 0), .lit (.int .u8 1), .lit (.int .u8 28), .lit (.int .u8 2), .lit (.int .u8 29), .lit (.int .u8 14), .lit (.int .u8 24), .lit (.int .u8 3), .lit (.int .u8 30), .lit (.int .u8 22), .lit (.int .u8 20), .lit (.int .u8 15), .lit (.int .u8 25), .lit (.int .u8 17), .lit (.int .u8 4), .lit (.int .u8 8), .lit (.int .u8 31), .lit (.int .u8 27), .lit (.int .u8 13), .lit (.int .u8 23), .lit (.int .u8 21), .lit (.int .u8 19), .lit (.int .u8 16), .lit (.int .u8 7), .lit (.int .u8 26), .lit (.int .u8 12), .lit (.int .u8 18), .lit (.int .u8 6), .lit (.int .u8 11), .lit (.int .u8 5), .lit (.int .u8 10), .lit (.int .u8 9)]
def laid_math_bits_deBruijn64tab {H : Type} : DataW H := .agg [.lit (.int .u8 0), .lit (.int .u8 1), .lit (.int .u8 56), .lit (.int .u8 2), .lit (.int .u8 57), .lit (.int .u8 49), .lit (.int .u8 28), .lit (.int .u8 3), .lit (.int .u8 61), .lit (.int .u8 58), .lit (.int .u8 42), .lit (.int .u8 50), .lit (.int .u8 38), .lit (.int .u8 29), .lit (.int .u8 17), .lit (.int .u8 4), .lit (.int .u8 62), .lit (.int .u8 47), .lit (.int .u8 59), .lit (.int .u8 36), .lit (.int .u8 45), .lit (.int .u8 43), .lit (.int .u8 51), .lit (.int .u8 22), .lit (.int .u8 53), .lit (.int .u8 39), .lit (.int .u8 33), .lit (.int .u8 30), .lit (.int .u8 24), .lit (.int .u8 18), .lit (.int .u8 12), .lit (.int .u8 5), .lit (.int .u8 63), .lit (.int .u8 55), .lit (.int .u8 48), .lit (.int .u8 27), .lit (.int .u8 60), .lit (.int .u8 41), .lit (.int .u8 37), .lit (.int .u8 16), .lit (.int .u8 46), .lit (.int .u8 35), .lit (.int .u8 44), .lit (.int .u8 21), .lit (.int .u8 52), .lit (.int .u8 32), .lit (.int .u8 23), .lit (.int .u8 11), .lit (.int .u8 54), .lit (.int .u8 26), .lit (.int .u8 40), .lit (.int .u8 15), .lit (.int .u8 34), .lit (.int .u8 20), .lit (.int .u8 31), .lit (.int .u8 10), .lit (.int .u8 25), .lit (.int .u8 14), .lit (.int .u8 19), .lit (.int .u8 9), .lit (.int .u8 13), .lit (.int .u8 8), .lit (.int .u8 7), .lit (.int .u8 6)]
def laid_internal_strconv_uint64pow10 {H : Type} : DataW H := .agg [.lit (.int .u64 1), .lit (.int .u64 10), .lit (.int .u64 100), .lit (.int .u64 1000), .lit (.int .u64 10000), .lit (.int .u64 100000), .lit (.int .u64 1000000), .lit (.int .u64 10000000), .lit (.int .u64 100000000), .lit (.int .u64 1000000000), .lit (.int .u64 10000000000), .lit (.int .u64 100000000000), .lit (.int .u64 1000000000000), .lit (.int .u64 10000000000000), .lit (.int .u64 100000000000000), .lit (.int .u64 1000000000000000), .lit (.int .u64 10000000000000000), .lit (.int .u64 100000000000000000), .lit (.int .u64 1000000000000000000), .lit (.int .u64 10000000000000000000)]

/-- 'stackyardlaw02.CostLeasts': WHATEVER THE INPUT: true; the input reads as it did. -/
def costLeastsSpec : ChangeSpec := { name := "costLeasts", fn := fun _ => fun
  | [d1, d2] => { results := [.lit (.bool true)], args := [d1, d2] }
  | _ => none }
def costLeastsRow : OpenClaim := { program := "ytgjeoioneoncnaadoor", sum := "ff5713cb9fbdfc6a4217fbfecc882dabf685e785068be0052e97e25a64e60134", func := "stackyard/stackyardlaw02.CostLeasts", spec := "costLeasts", named := ["internal/strconv.uint64pow10", "math/bits.deBruijn32tab", "math/bits.deBruijn64tab"], apart := false, laid := [("math/bits.deBruijn32tab", laid_math_bits_deBruijn32tab), ("math/bits.deBruijn64tab", laid_math_bits_deBruijn64tab), ("internal/strconv.uint64pow10", laid_internal_strconv_uint64pow10)] }
def CostLeastsSaid : Prop := costLeastsRow.holds Tryd.pinned (OpenSpec.ofChange costLeastsSpec)

/-- ITS FALSE NEIGHBOUR: 'it returns false'. Refute it at one input. -/
def costLeastsWrong : ChangeSpec := { name := "costLeasts", fn := fun _ => fun
  | [d1, d2] => { results := [.lit (.bool false)], args := [d1, d2] }
  | _ => none }
def CostLeastsWrongFalsely : Prop := costLeastsRow.holds Tryd.pinned (OpenSpec.ofChange costLeastsWrong)

/-- 'stackyardlaw02.CostSemiring': WHATEVER THE INPUT: true; the input reads as it did. -/
def costSemiringSpec : ChangeSpec := { name := "costSemiring", fn := fun _ => fun
  | [d1, d2, d3, d4] => { results := [.lit (.bool true)], args := [d1, d2, d3, d4] }
  | _ => none }
def costSemiringRow : OpenClaim := { program := "ytgjeoioneoncnaadoor", sum := "ff5713cb9fbdfc6a4217fbfecc882dabf685e785068be0052e97e25a64e60134", func := "stackyard/stackyardlaw02.CostSemiring", spec := "costSemiring", named := ["internal/strconv.uint64pow10", "math/bits.deBruijn32tab", "math/bits.deBruijn64tab"], apart := false, laid := [("math/bits.deBruijn32tab", laid_math_bits_deBruijn32tab), ("math/bits.deBruijn64tab", laid_math_bits_deBruijn64tab), ("internal/strconv.uint64pow10", laid_internal_strconv_uint64pow10)] }
def CostSemiringSaid : Prop := costSemiringRow.holds Tryd.pinned (OpenSpec.ofChange costSemiringSpec)

/-- ITS FALSE NEIGHBOUR: 'it returns false'. Refute it at one input. -/
def costSemiringWrong : ChangeSpec := { name := "costSemiring", fn := fun _ => fun
  | [d1, d2, d3, d4] => { results := [.lit (.bool false)], args := [d1, d2, d3, d4] }
  | _ => none }
def CostSemiringWrongFalsely : Prop := costSemiringRow.holds Tryd.pinned (OpenSpec.ofChange costSemiringWrong)

/-- 'stackyardlaw02.CostOrder': WHATEVER THE INPUT: true; the input reads as it did. -/
def costOrderSpec : ChangeSpec := { name := "costOrder", fn := fun _ => fun
  | [d1, d2, d3, d4] => { results := [.lit (.bool true)], args := [d1, d2, d3, d4] }
  | _ => none }
def costOrderRow : OpenClaim := { program := "ytgjeoioneoncnaadoor", sum := "ff5713cb9fbdfc6a4217fbfecc882dabf685e785068be0052e97e25a64e60134", func := "stackyard/stackyardlaw02.CostOrder", spec := "costOrder", named := ["internal/strconv.uint64pow10", "math/bits.deBruijn32tab", "math/bits.deBruijn64tab"], apart := false, laid := [("math/bits.deBruijn32tab", laid_math_bits_deBruijn32tab), ("math/bits.deBruijn64tab", laid_math_bits_deBruijn64tab), ("internal/strconv.uint64pow10", laid_internal_strconv_uint64pow10)] }
def CostOrderSaid : Prop := costOrderRow.holds Tryd.pinned (OpenSpec.ofChange costOrderSpec)

/-- ITS FALSE NEIGHBOUR: 'it returns false'. Refute it at one input. -/
def costOrderWrong : ChangeSpec := { name := "costOrder", fn := fun _ => fun
  | [d1, d2, d3, d4] => { results := [.lit (.bool false)], args := [d1, d2, d3, d4] }
  | _ => none }
def CostOrderWrongFalsely : Prop := costOrderRow.holds Tryd.pinned (OpenSpec.ofChange costOrderWrong)

/-- 'stackyardlaw02.CostRow': WHATEVER THE INPUT: true; the input reads as it did. -/
def costRowSpec : ChangeSpec := { name := "costRow", fn := fun _ => fun
  | [d1, d2] => { results := [.lit (.bool true)], args := [d1, d2] }
  | _ => none }
def costRowRow : OpenClaim := { program := "ytgjeoioneoncnaadoor", sum := "ff5713cb9fbdfc6a4217fbfecc882dabf685e785068be0052e97e25a64e60134", func := "stackyard/stackyardlaw02.CostRow", spec := "costRow", named := ["internal/strconv.uint64pow10", "math/bits.deBruijn32tab", "math/bits.deBruijn64tab"], apart := false, laid := [("math/bits.deBruijn32tab", laid_math_bits_deBruijn32tab), ("math/bits.deBruijn64tab", laid_math_bits_deBruijn64tab), ("internal/strconv.uint64pow10", laid_internal_strconv_uint64pow10)] }
def CostRowSaid : Prop := costRowRow.holds Tryd.pinned (OpenSpec.ofChange costRowSpec)

/-- ITS FALSE NEIGHBOUR: 'it returns false'. Refute it at one input. -/
def costRowWrong : ChangeSpec := { name := "costRow", fn := fun _ => fun
  | [d1, d2] => { results := [.lit (.bool false)], args := [d1, d2] }
  | _ => none }
def CostRowWrongFalsely : Prop := costRowRow.holds Tryd.pinned (OpenSpec.ofChange costRowWrong)

/-- 'stackyardlaw02.CostChecks': WHATEVER THE INPUT: true; the input reads as it did. -/
def costChecksSpec : ChangeSpec := { name := "costChecks", fn := fun _ => fun
  | [d1, d2, d3] => { results := [.lit (.bool true)], args := [d1, d2, d3] }
  | _ => none }
def costChecksRow : OpenClaim := { program := "ytgjeoioneoncnaadoor", sum := "ff5713cb9fbdfc6a4217fbfecc882dabf685e785068be0052e97e25a64e60134", func := "stackyard/stackyardlaw02.CostChecks", spec := "costChecks", named := ["internal/strconv.uint64pow10", "math/bits.deBruijn32tab", "math/bits.deBruijn64tab"], apart := false, laid := [("math/bits.deBruijn32tab", laid_math_bits_deBruijn32tab), ("math/bits.deBruijn64tab", laid_math_bits_deBruijn64tab), ("internal/strconv.uint64pow10", laid_internal_strconv_uint64pow10)] }
def CostChecksSaid : Prop := costChecksRow.holds Tryd.pinned (OpenSpec.ofChange costChecksSpec)

/-- ITS FALSE NEIGHBOUR: 'it returns false'. Refute it at one input. -/
def costChecksWrong : ChangeSpec := { name := "costChecks", fn := fun _ => fun
  | [d1, d2, d3] => { results := [.lit (.bool false)], args := [d1, d2, d3] }
  | _ => none }
def CostChecksWrongFalsely : Prop := costChecksRow.holds Tryd.pinned (OpenSpec.ofChange costChecksWrong)

/-- 'stackyardlaw02.CostTexts': WHATEVER THE INPUT: true; the input reads as it did. -/
def costTextsSpec : ChangeSpec := { name := "costTexts", fn := fun _ => fun
  | [d1, d2, d3] => { results := [.lit (.bool true)], args := [d1, d2, d3] }
  | _ => none }
def costTextsRow : OpenClaim := { program := "ytgjeoioneoncnaadoor", sum := "ff5713cb9fbdfc6a4217fbfecc882dabf685e785068be0052e97e25a64e60134", func := "stackyard/stackyardlaw02.CostTexts", spec := "costTexts", named := ["internal/strconv.uint64pow10", "math/bits.deBruijn32tab", "math/bits.deBruijn64tab"], apart := false, laid := [("math/bits.deBruijn32tab", laid_math_bits_deBruijn32tab), ("math/bits.deBruijn64tab", laid_math_bits_deBruijn64tab), ("internal/strconv.uint64pow10", laid_internal_strconv_uint64pow10)] }
def CostTextsSaid : Prop := costTextsRow.holds Tryd.pinned (OpenSpec.ofChange costTextsSpec)

/-- ITS FALSE NEIGHBOUR: 'it returns false'. Refute it at one input. -/
def costTextsWrong : ChangeSpec := { name := "costTexts", fn := fun _ => fun
  | [d1, d2, d3] => { results := [.lit (.bool false)], args := [d1, d2, d3] }
  | _ => none }
def CostTextsWrongFalsely : Prop := costTextsRow.holds Tryd.pinned (OpenSpec.ofChange costTextsWrong)

/-- 'stackyardlaw02.CostBack': WHATEVER THE INPUT: true; the input reads as it did. -/
def costBackSpec : ChangeSpec := { name := "costBack", fn := fun _ => fun
  | [d1, d2, d3] => { results := [.lit (.bool true)], args := [d1, d2, d3] }
  | _ => none }
def costBackRow : OpenClaim := { program := "ytgjeoioneoncnaadoor", sum := "ff5713cb9fbdfc6a4217fbfecc882dabf685e785068be0052e97e25a64e60134", func := "stackyard/stackyardlaw02.CostBack", spec := "costBack", named := ["internal/strconv.uint64pow10", "math/bits.deBruijn32tab", "math/bits.deBruijn64tab"], apart := false, laid := [("math/bits.deBruijn32tab", laid_math_bits_deBruijn32tab), ("math/bits.deBruijn64tab", laid_math_bits_deBruijn64tab), ("internal/strconv.uint64pow10", laid_internal_strconv_uint64pow10)] }
def CostBackSaid : Prop := costBackRow.holds Tryd.pinned (OpenSpec.ofChange costBackSpec)

/-- ITS FALSE NEIGHBOUR: 'it returns false'. Refute it at one input. -/
def costBackWrong : ChangeSpec := { name := "costBack", fn := fun _ => fun
  | [d1, d2, d3] => { results := [.lit (.bool false)], args := [d1, d2, d3] }
  | _ => none }
def CostBackWrongFalsely : Prop := costBackRow.holds Tryd.pinned (OpenSpec.ofChange costBackWrong)

/- THE SECOND FORM. 'bulk': how many values and letters a reading holds, each counted each time it is reached (what is shared counts as often as it is met; a slice's spare places count too). A statement '..UptoSaid' is the law's where the arguments, and the package variables that the reading takes, are together of bulk at most 1048576: NARROWER than '..Said'. Prove '..Said' where nothing that the law and all that it calls make is longer than what came in: it says more and counts as full. Else prove '..UptoSaid'. A law counts once. -/
mutual
def uptoBulk {H : Type} : DataW H → Nat
  | .lit (.string bytes) => bytes.length + 1
  | .lit _ => 1
  | .nil => 1
  | .ptr d => uptoBulk d + 1
  | .slice elems spare => uptoBulkAll elems + uptoBulkAll spare + 1
  | .agg parts => uptoBulkAll parts + 1
  | .iface _ d => uptoBulk d + 1
  | .map entries => uptoBulkEntries entries + 1
  | .held _ => 1
def uptoBulkAll {H : Type} : List (DataW H) → Nat
  | [] => 0
  | d :: r => uptoBulk d + uptoBulkAll r
def uptoBulkEntries {H : Type} : List (Lit × DataW H) → Nat
  | [] => 0
  | x :: r => uptoBulkEntry x + uptoBulkEntries r
def uptoBulkEntry {H : Type} : Lit × DataW H → Nat
  | (.string bytes, d) => bytes.length + uptoBulk d + 1
  | (_, d) => uptoBulk d + 1
 end
def uptoSmall : (H : Type) → List (DataW H) → Bool := fun _ ds => decide (uptoBulkAll ds ≤ 1048576)
def OpenSpec.upto (s : _root_.Go.ChangeSpec) : _root_.Go.OpenSpec := { _root_.Go.OpenSpec.ofChange s with cond := some uptoSmall }

/-- 'stackyardlaw02.CostLeasts', WHERE WHAT IT READS IS OF BULK AT MOST 1048576: true; the input reads as it did. -/
def costLeastsUptoRow : OpenClaim := { program := "ytgjeoioneoncnaadoor", sum := "ff5713cb9fbdfc6a4217fbfecc882dabf685e785068be0052e97e25a64e60134", func := "stackyard/stackyardlaw02.CostLeasts", spec := "costLeasts", named := ["internal/strconv.uint64pow10", "math/bits.deBruijn32tab", "math/bits.deBruijn64tab"], apart := false, laid := [("math/bits.deBruijn32tab", laid_math_bits_deBruijn32tab), ("math/bits.deBruijn64tab", laid_math_bits_deBruijn64tab), ("internal/strconv.uint64pow10", laid_internal_strconv_uint64pow10)], narrowed := true }
def CostLeastsUptoSaid : Prop := costLeastsUptoRow.holds Tryd.pinned (OpenSpec.upto costLeastsSpec)

/-- 'stackyardlaw02.CostSemiring', WHERE WHAT IT READS IS OF BULK AT MOST 1048576: true; the input reads as it did. -/
def costSemiringUptoRow : OpenClaim := { program := "ytgjeoioneoncnaadoor", sum := "ff5713cb9fbdfc6a4217fbfecc882dabf685e785068be0052e97e25a64e60134", func := "stackyard/stackyardlaw02.CostSemiring", spec := "costSemiring", named := ["internal/strconv.uint64pow10", "math/bits.deBruijn32tab", "math/bits.deBruijn64tab"], apart := false, laid := [("math/bits.deBruijn32tab", laid_math_bits_deBruijn32tab), ("math/bits.deBruijn64tab", laid_math_bits_deBruijn64tab), ("internal/strconv.uint64pow10", laid_internal_strconv_uint64pow10)], narrowed := true }
def CostSemiringUptoSaid : Prop := costSemiringUptoRow.holds Tryd.pinned (OpenSpec.upto costSemiringSpec)

/-- 'stackyardlaw02.CostOrder', WHERE WHAT IT READS IS OF BULK AT MOST 1048576: true; the input reads as it did. -/
def costOrderUptoRow : OpenClaim := { program := "ytgjeoioneoncnaadoor", sum := "ff5713cb9fbdfc6a4217fbfecc882dabf685e785068be0052e97e25a64e60134", func := "stackyard/stackyardlaw02.CostOrder", spec := "costOrder", named := ["internal/strconv.uint64pow10", "math/bits.deBruijn32tab", "math/bits.deBruijn64tab"], apart := false, laid := [("math/bits.deBruijn32tab", laid_math_bits_deBruijn32tab), ("math/bits.deBruijn64tab", laid_math_bits_deBruijn64tab), ("internal/strconv.uint64pow10", laid_internal_strconv_uint64pow10)], narrowed := true }
def CostOrderUptoSaid : Prop := costOrderUptoRow.holds Tryd.pinned (OpenSpec.upto costOrderSpec)

/-- 'stackyardlaw02.CostRow', WHERE WHAT IT READS IS OF BULK AT MOST 1048576: true; the input reads as it did. -/
def costRowUptoRow : OpenClaim := { program := "ytgjeoioneoncnaadoor", sum := "ff5713cb9fbdfc6a4217fbfecc882dabf685e785068be0052e97e25a64e60134", func := "stackyard/stackyardlaw02.CostRow", spec := "costRow", named := ["internal/strconv.uint64pow10", "math/bits.deBruijn32tab", "math/bits.deBruijn64tab"], apart := false, laid := [("math/bits.deBruijn32tab", laid_math_bits_deBruijn32tab), ("math/bits.deBruijn64tab", laid_math_bits_deBruijn64tab), ("internal/strconv.uint64pow10", laid_internal_strconv_uint64pow10)], narrowed := true }
def CostRowUptoSaid : Prop := costRowUptoRow.holds Tryd.pinned (OpenSpec.upto costRowSpec)

/-- 'stackyardlaw02.CostChecks', WHERE WHAT IT READS IS OF BULK AT MOST 1048576: true; the input reads as it did. -/
def costChecksUptoRow : OpenClaim := { program := "ytgjeoioneoncnaadoor", sum := "ff5713cb9fbdfc6a4217fbfecc882dabf685e785068be0052e97e25a64e60134", func := "stackyard/stackyardlaw02.CostChecks", spec := "costChecks", named := ["internal/strconv.uint64pow10", "math/bits.deBruijn32tab", "math/bits.deBruijn64tab"], apart := false, laid := [("math/bits.deBruijn32tab", laid_math_bits_deBruijn32tab), ("math/bits.deBruijn64tab", laid_math_bits_deBruijn64tab), ("internal/strconv.uint64pow10", laid_internal_strconv_uint64pow10)], narrowed := true }
def CostChecksUptoSaid : Prop := costChecksUptoRow.holds Tryd.pinned (OpenSpec.upto costChecksSpec)

/-- 'stackyardlaw02.CostTexts', WHERE WHAT IT READS IS OF BULK AT MOST 1048576: true; the input reads as it did. -/
def costTextsUptoRow : OpenClaim := { program := "ytgjeoioneoncnaadoor", sum := "ff5713cb9fbdfc6a4217fbfecc882dabf685e785068be0052e97e25a64e60134", func := "stackyard/stackyardlaw02.CostTexts", spec := "costTexts", named := ["internal/strconv.uint64pow10", "math/bits.deBruijn32tab", "math/bits.deBruijn64tab"], apart := false, laid := [("math/bits.deBruijn32tab", laid_math_bits_deBruijn32tab), ("math/bits.deBruijn64tab", laid_math_bits_deBruijn64tab), ("internal/strconv.uint64pow10", laid_internal_strconv_uint64pow10)], narrowed := true }
def CostTextsUptoSaid : Prop := costTextsUptoRow.holds Tryd.pinned (OpenSpec.upto costTextsSpec)

/-- 'stackyardlaw02.CostBack', WHERE WHAT IT READS IS OF BULK AT MOST 1048576: true; the input reads as it did. -/
def costBackUptoRow : OpenClaim := { program := "ytgjeoioneoncnaadoor", sum := "ff5713cb9fbdfc6a4217fbfecc882dabf685e785068be0052e97e25a64e60134", func := "stackyard/stackyardlaw02.CostBack", spec := "costBack", named := ["internal/strconv.uint64pow10", "math/bits.deBruijn32tab", "math/bits.deBruijn64tab"], apart := false, laid := [("math/bits.deBruijn32tab", laid_math_bits_deBruijn32tab), ("math/bits.deBruijn64tab", laid_math_bits_deBruijn64tab), ("internal/strconv.uint64pow10", laid_internal_strconv_uint64pow10)], narrowed := true }
def CostBackUptoSaid : Prop := costBackUptoRow.holds Tryd.pinned (OpenSpec.upto costBackSpec)

end Rows
end Go.Proofs.YtgjeoioneoncnaaDoor
