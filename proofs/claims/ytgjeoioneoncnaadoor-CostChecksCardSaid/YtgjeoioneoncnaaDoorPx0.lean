-- Written by a program of this session (wip/print/patch_print.py over the kit's printer) out of the translation: functions and contracts. Lean checks it.
import Derived.Test.YtgjeoioneoncnaaDoorProg
import Derived.Below
import Derived.Deep.Draws
import Derived.Deep.AppendLies
import Derived.Maps.AppendAt
import Derived.OwnWalk
import Derived.Laws.BytesArg
import Derived.Laws.MakeOwn
import Derived.Laws.OwnMore
import Derived.Deep.OwnRows
import Derived.Tactics
import Derived.Lib.ConvBytes
import Derived.Laws.Slices
import Derived.WalkKit
import Derived.KernelRfl
import Derived.RowKit3
import Derived.Deep.LoopGhost
import Derived.Deep.QuietTactic
import Derived.BigQuiet
import Derived.WideLaws
import Derived.Deep.DeepCutAuto
import Derived.Deep.CutBlock
import Derived.Deep.RegionHeld3
import Derived.Laws.Rows
import Derived.Lib.AppendStr
import Derived.ArgAppend
import Derived.Laws.IdiomCopy
import Derived.OrdersHeld
import Derived.Laws.BitsLemmas
import Derived.RowKit
import Derived.Test.YtgjeoioneoncnaaDoorWWords
import Derived.Test.YtgjeoioneoncnaaDoorWLast
import Derived.Test.YtgjeoioneoncnaaDoorWTab
import Derived.Test.YtgjeoioneoncnaaDoorWFour
import Derived.Test.YtgjeoioneoncnaaDoorWQPut
import Derived.Test.YtgjeoioneoncnaaDoorWApart
import Derived.Test.YtgjeoioneoncnaaDoorWArr
import Derived.Test.YtgjeoioneoncnaaDoorWZeros
import Derived.Test.YtgjeoioneoncnaaDoorWFoot
import Derived.Test.YtgjeoioneoncnaaDoorWKept
import Derived.Test.YtgjeoioneoncnaaDoorWShare
import Derived.Test.YtgjeoioneoncnaaDoorWN
import Derived.Test.YtgjeoioneoncnaaDoorWFootNe
import Derived.Test.YtgjeoioneoncnaaDoorWAt
import Derived.Test.YtgjeoioneoncnaaDoorWEqStruct
import Derived.Test.YtgjeoioneoncnaaDoorWRepsOne
import Derived.Test.YtgjeoioneoncnaaDoorWInv
import Derived.Test.YtgjeoioneoncnaaDoorWInvWords
import Derived.Test.YtgjeoioneoncnaaDoorWGuard
import Derived.Test.YtgjeoioneoncnaaDoorWNEv
import Derived.Test.YtgjeoioneoncnaaDoorWMore
namespace Go.Proofs.YtgjeoioneoncnaaDoor.P
open Go.RowKit Go.Proofs.YtgjeoioneoncnaaDoorW.PrintWords Go.Proofs.YtgjeoioneoncnaaDoorW.PrintLast Go.Proofs.YtgjeoioneoncnaaDoorW.PrintMore
attribute [local go_sem] max2_int min2_int max_two min_two max_three min_three max_four min_four   -- for this text's walks alone
set_option linter.unusedVariables false
set_option linter.unusedSimpArgs false



def errW : Option Int → Value
  | none => .nilIface
  | some c => .iface 0 (.int .i64 c)
theorem errW_none : errW none = .nilIface := rfl
theorem errW_some (c : Int) : errW (some c) = .iface 0 (.int .i64 c) := rfl

theorem info3 : (Tryd.prog.info? 3).map (fun i => (i.zero, i.size, i.bytes)) = some (some (.int .i64 0), 1, 8) := by kernel_rfl
-- the values' own types

end Go.Proofs.YtgjeoioneoncnaaDoor.P
