/- Px0, for the statement BitsBack: what it needs, no more. -/
import Derived.Test.YtpaikjnmopkekaaDoorProg
import Derived.Test.YtpaikjnmopkekaaDoorIterList
import Derived.Test.YtpaikjnmopkekaaDoorIterText
import Derived.Test.YtpaikjnmopkekaaDoorIterNext
import Derived.Test.YtpaikjnmopkekaaDoorBW
import Derived.Test.YtpaikjnmopkekaaDoorShelf
import Derived.Test.YtpaikjnmopkekaaDoorWWords
import Derived.Test.YtpaikjnmopkekaaDoorWLast
import Derived.Test.YtpaikjnmopkekaaDoorWTab
import Derived.Test.YtpaikjnmopkekaaDoorWFour
import Derived.Test.YtpaikjnmopkekaaDoorWQPut
import Derived.Test.YtpaikjnmopkekaaDoorWApart
import Derived.Test.YtpaikjnmopkekaaDoorWArr
import Derived.Test.YtpaikjnmopkekaaDoorWZeros
import Derived.Test.YtpaikjnmopkekaaDoorWFoot
import Derived.Test.YtpaikjnmopkekaaDoorWKept
import Derived.Test.YtpaikjnmopkekaaDoorWShare
import Derived.Test.YtpaikjnmopkekaaDoorWN
import Derived.Test.YtpaikjnmopkekaaDoorWFootNe
import Derived.Test.YtpaikjnmopkekaaDoorWAt
import Derived.Test.YtpaikjnmopkekaaDoorWEqStruct
import Derived.Test.YtpaikjnmopkekaaDoorWRepsOne
import Derived.Test.YtpaikjnmopkekaaDoorWInv
import Derived.Test.YtpaikjnmopkekaaDoorWInvWords
import Derived.Test.YtpaikjnmopkekaaDoorWGuard
import Derived.Test.YtpaikjnmopkekaaDoorWNEv
import Derived.Test.YtpaikjnmopkekaaDoorWMore
import Derived.Below
import Derived.Deep.Draws
import Derived.Deep.AppendLies
import Derived.Maps.AppendAt
import Derived.OwnWalk
import Derived.Laws.BytesArg
import Derived.Laws.MakeOwn
import Derived.Laws.OwnMore
import Derived.Deep.OwnRows
import Derived.Tactics
import Derived.Lib.ConvBytes
import Derived.Laws.Slices
import Derived.WalkKit
import Derived.KernelRfl
import Derived.RowKit3
import Derived.Deep.LoopGhost
import Derived.Deep.QuietTactic
import Derived.BigQuiet
import Derived.WideLaws
import Derived.Deep.DeepCutAuto
import Derived.Deep.CutBlock
import Derived.Deep.RegionHeld3
import Derived.Laws.Rows
import Derived.Lib.AppendStr
import Derived.ArgAppend
import Derived.Laws.IdiomCopy
import Derived.OrdersHeld
import Derived.Laws.BitsLemmas
import Derived.RowKit
import Derived.Lib.LaidTab
import Derived.Lib.SmallJoins
import Derived.Lib.AppendIntMem
-- Written by a program of this session (wip/print/patch_print.py over the kit's printer) out of the translation: functions and contracts. Lean checks it.
namespace Go.Proofs.YtpaikjnmopkekaaDoor.P
open Go.RowKit Go.Proofs.YtpaikjnmopkekaaDoorW.PrintWords Go.Proofs.YtpaikjnmopkekaaDoorW.PrintLast Go.Proofs.YtpaikjnmopkekaaDoorW.PrintMore
attribute [local go_sem] max2_int min2_int max_two min_two max_three min_three max_four min_four   -- for this text's walks alone
set_option linter.unusedVariables false
set_option linter.unusedSimpArgs false
def errW : Option Int → Value
  | none => .nilIface
  | some c => .iface 0 (.int .i64 c)
theorem errW_none : errW none = .nilIface := rfl
theorem errW_some (c : Int) : errW (some c) = .iface 0 (.int .i64 c) := rfl

-- the values' own types
/-- The library's tables are as they were laid. -/
structure Glob (w : World) : Prop where
  t0 : Go.Lib.TabIs Tryd.prog w "internal/strconv.uint64pow10" .u64 Go.Lib.pow10Tab
  t1 : Go.Lib.TabIs Tryd.prog w "math/bits.deBruijn32tab" .u8 [0, 1, 28, 2, 29, 14, 24, 3, 30, 22, 20, 15, 25, 17, 4, 8, 31, 27, 13, 23, 21, 19, 16, 7, 26, 12, 18, 6, 11, 5, 10, 9]
  t2 : Go.Lib.TabIs Tryd.prog w "math/bits.deBruijn64tab" .u8 [0, 1, 56, 2, 57, 49, 28, 3, 61, 58, 42, 50, 38, 29, 17, 4, 62, 47, 59, 36, 45, 43, 51, 22, 53, 39, 33, 30, 24, 18, 12, 5, 63, 55, 48, 27, 60, 41, 37, 16, 46, 35, 44, 21, 52, 32, 23, 11, 54, 26, 40, 15, 34, 20, 31, 10, 25, 14, 19, 9, 13, 8, 7, 6]
  err : ∃ tp p, w.var? Tryd.prog "strconv.ErrSyntax" = some #[.iface tp p]
theorem glob_0 : Tryd.prog.globalNamed "internal/strconv.uint64pow10" = some 3 := by kernel_rfl
theorem glob_1 : Tryd.prog.globalNamed "math/bits.deBruijn32tab" = some 5 := by kernel_rfl
theorem glob_2 : Tryd.prog.globalNamed "math/bits.deBruijn64tab" = some 0 := by kernel_rfl
theorem glob_err : Tryd.prog.globalNamed "strconv.ErrSyntax" = some 1 := by kernel_rfl
theorem Glob.below {w w' : World} (h : Glob w) (hb : Below w.heap.size w w') : Glob w' := ⟨Go.Joins.var_stays glob_0 h.t0 hb (Nat.le_refl _), Go.Joins.var_stays glob_1 h.t1 hb (Nat.le_refl _), Go.Joins.var_stays glob_2 h.t2 hb (Nat.le_refl _), let ⟨tp, p, h1⟩ := h.err; ⟨tp, p, Go.Joins.var_stays glob_err h1 hb (Nat.le_refl _)⟩⟩
end Go.Proofs.YtpaikjnmopkekaaDoor.P
