/- BitLaw, for the statement BitsBack: what it needs, no more. -/
import Derived.Test.YtpaikjnmopkekaaDoorZBitsBackBitF
import Derived.Test.YtpaikjnmopkekaaDoorZBitsBackPx0
import Derived.Test.YtpaikjnmopkekaaDoorWMore
import Derived.ChangeArms
import Derived.DataReads
import Derived.SizedLaws
import Derived.OpenShut
import Derived.WideShapes
import Derived.Lib.LaidTab
import Derived.Stop.LaidErr
namespace Go.Proofs.YtpaikjnmopkekaaDoor.BitA
end Go.Proofs.YtpaikjnmopkekaaDoor.BitA
namespace Go.Proofs.YtpaikjnmopkekaaDoor.P
end Go.Proofs.YtpaikjnmopkekaaDoor.P
namespace Go.Proofs.YtpaikjnmopkekaaDoor.Law
open Go.RowKit Go.Proofs.YtpaikjnmopkekaaDoor.P Go.Proofs.YtpaikjnmopkekaaDoor.BitA Go.Proofs.YtpaikjnmopkekaaDoorW.PrintWords Go.Proofs.YtpaikjnmopkekaaDoorW.PrintLast Go.Proofs.YtpaikjnmopkekaaDoorW.PrintMore
set_option linter.unusedVariables false
theorem u64_of {a : Int} (h : (Lit.int .u64 a).wf = true) : ∃ s : Nat, a = (s : Int) ∧ s < 18446744073709551616 := by
  simp [Lit.wf, IntKind.min, IntKind.max, IntKind.signed, IntKind.bits] at h
  exact ⟨a.toNat, by omega, by omega⟩
theorem BitsBack (a0 : Int) (w0 : (Lit.int .u64 a0).wf = true) : ∃ k, stackyardlaw01_BitsBack.f k a0 = some true := by
  obtain ⟨s, rfl, hs⟩ := u64_of w0
  exact (BitA.BitsBack s hs).rounds
end Go.Proofs.YtpaikjnmopkekaaDoor.Law
