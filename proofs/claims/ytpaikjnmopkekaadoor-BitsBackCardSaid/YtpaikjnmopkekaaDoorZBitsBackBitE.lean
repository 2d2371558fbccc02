/- BitE, for the statement BitsBack: what it needs, no more. -/
import Derived.Test.YtpaikjnmopkekaaDoorZBitsBackBitD
namespace Go.Proofs.YtpaikjnmopkekaaDoor.Iter
end Go.Proofs.YtpaikjnmopkekaaDoor.Iter
namespace Go.Proofs.YtpaikjnmopkekaaDoor.P
end Go.Proofs.YtpaikjnmopkekaaDoor.P
namespace Go.Proofs.YtpaikjnmopkekaaDoor.Plain
end Go.Proofs.YtpaikjnmopkekaaDoor.Plain
namespace Go.Proofs.YtpaikjnmopkekaaDoor.BitA
open Go.RowKit Go.Proofs.YtpaikjnmopkekaaDoor.P Go.Proofs.YtpaikjnmopkekaaDoor.Plain Go.Proofs.YtpaikjnmopkekaaDoor.Iter Go.Proofs.YtpaikjnmopkekaaDoorW.PrintWords Go.Proofs.YtpaikjnmopkekaaDoorW.PrintLast Go.Proofs.YtpaikjnmopkekaaDoorW.PrintMore
set_option linter.unusedVariables false
set_option linter.unusedSimpArgs false
theorem text_eq (s : Nat) (hs : s < 18446744073709551616) : bits_Text.f (s : Int) = some (textB s) := by
  unfold bits_Text.f
  rw [if_pos (by omega), Int.toNat_natCast]
theorem itoa0 : Go.Lib.itoa 0 = [48] := by decide +kernel
theorem itoa3 : Go.Lib.itoa 3 = [51] := by decide +kernel
theorem bl9 : bl 9 = [0, 3] := by decide +kernel
theorem text9 : (textB 9).toList = ([123, 48, 44, 51, 125] : List UInt8) := by
  rw [toList_eq]
  unfold textB inner strs numS
  rw [bl9]
  simp only [List.map_cons, List.map_nil, itoa0, itoa3]
  decide +kernel
theorem alive_ev : Ev (fun k => stackyardlaw01_alive.f k) true := by
  unfold stackyardlaw01_alive.f
  refine Ev.bind (of_ev [0, 3] (by decide)) ?_
  have e1 : ofV [0, 3] 0 = (9, 0) := by decide +kernel
  have e2 : bits_Field.f 240 4 4 = some (-1, 0) := by
    have := field_eq 240 (by decide) 4 4
    rw [show fieldV 240 4 4 = (-1, 0) by decide +kernel] at this
    exact this
  have e3 : bits_Text.f 9 = some (textB 9) := text_eq 9 (by decide)
  simp only [e1, e2, e3, Option.bind_some, if_true, text9]
  exact Ev.now _
end Go.Proofs.YtpaikjnmopkekaaDoor.BitA
