/- BitLaw, for the statement BitsSets: what it needs, no more. -/
import Derived.Test.YtpaikjnmopkekaaDoorZBitsSetsBitE
import Derived.Test.YtpaikjnmopkekaaDoorZBitsSetsPx0
import Derived.Test.YtpaikjnmopkekaaDoorZBitsSetsOpen
namespace Go.Proofs.YtpaikjnmopkekaaDoor.BitA
end Go.Proofs.YtpaikjnmopkekaaDoor.BitA
namespace Go.Proofs.YtpaikjnmopkekaaDoor.P
end Go.Proofs.YtpaikjnmopkekaaDoor.P
namespace Go.Proofs.YtpaikjnmopkekaaDoor.Law
open Go.RowKit Go.Proofs.YtpaikjnmopkekaaDoor.P Go.Proofs.YtpaikjnmopkekaaDoor.BitA Go.Proofs.YtpaikjnmopkekaaDoorW.PrintWords Go.Proofs.YtpaikjnmopkekaaDoorW.PrintLast Go.Proofs.YtpaikjnmopkekaaDoorW.PrintMore
set_option linter.unusedVariables false
theorem u64_of {a : Int} (h : (Lit.int .u64 a).wf = true) : ∃ s : Nat, a = (s : Int) ∧ s < 18446744073709551616 := by
  simp [Lit.wf, IntKind.min, IntKind.max, IntKind.signed, IntKind.bits] at h
  exact ⟨a.toNat, by omega, by omega⟩
theorem BitsSets (a0 : Int) (l1 : List Int) (a2 : Int) (w0 : (Lit.int .i64 a0).wf = true) (y1 : l1.length * 8 ≤ 140737488351232 ∧ l1.length ≤ maxLen ∧ ∀ y ∈ l1, (Lit.int .i64 y).wf = true) (w2 : (Lit.int .u64 a2).wf = true) : ∃ k, stackyardlaw01_BitsSets.f k a0 l1 a2 = some true := by
  obtain ⟨s, rfl, hs⟩ := u64_of w2
  exact (BitA.BitsSets a0 l1 s hs (by have := y1.1; omega)).rounds
end Go.Proofs.YtpaikjnmopkekaaDoor.Law
