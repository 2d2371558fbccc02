/- BitA, for the statement BitsBack: what it needs, no more. -/
import Derived.Test.YtpaikjnmopkekaaDoorZBitsBackPx0
import Derived.Test.YtpaikjnmopkekaaDoorZBitsBackPx1
import Derived.Test.YtpaikjnmopkekaaDoorZBitsBackPx2
import Derived.Test.YtpaikjnmopkekaaDoorZBitsBackPx4
import Derived.Test.YtpaikjnmopkekaaDoorZBitsBackPx6
import Derived.Test.YtpaikjnmopkekaaDoorZBitsBackPlain
import Derived.Test.YtpaikjnmopkekaaDoorIterList
import Derived.Test.YtpaikjnmopkekaaDoorIterNext
import Derived.Test.YtpaikjnmopkekaaDoorIterText
import Derived.Laws.BitsAllLaws
namespace Go.Proofs.YtpaikjnmopkekaaDoor.Iter
end Go.Proofs.YtpaikjnmopkekaaDoor.Iter
namespace Go.Proofs.YtpaikjnmopkekaaDoor.P
end Go.Proofs.YtpaikjnmopkekaaDoor.P
namespace Go.Proofs.YtpaikjnmopkekaaDoor.Plain
end Go.Proofs.YtpaikjnmopkekaaDoor.Plain
namespace Go.Proofs.YtpaikjnmopkekaaDoor.BitA
open Go.RowKit Go.Proofs.YtpaikjnmopkekaaDoor.P Go.Proofs.YtpaikjnmopkekaaDoor.Plain Go.Proofs.YtpaikjnmopkekaaDoor.Iter Go.Proofs.YtpaikjnmopkekaaDoorW.PrintWords Go.Proofs.YtpaikjnmopkekaaDoorW.PrintLast Go.Proofs.YtpaikjnmopkekaaDoorW.PrintMore
set_option linter.unusedVariables false
set_option linter.unusedSimpArgs false
theorem wrapu (i : Nat) (h : i < 18446744073709551616) : IntKind.u64.wrap (i : Int) = (i : Int) := by rw [IntKind.wrap_u64]; omega
theorem shl_nat (m i : Nat) (hi : i ≤ 64) : shl .u64 (m : Int) (i : Int) = ((m * 2 ^ i % 18446744073709551616 : Nat) : Int) := by
  unfold shl
  have : min ((i : Int).toNat) IntKind.u64.bits = i := by rw [Int.toNat_natCast]; exact Nat.min_eq_left hi
  rw [this, IntKind.wrap_u64, Int.natCast_emod, Int.natCast_mul, Int.natCast_pow]; rfl
theorem shr_nat (m i : Nat) (hi : i ≤ 64) : shr .u64 (m : Int) (i : Int) = ((m / 2 ^ i : Nat) : Int) := by
  unfold shr
  have : min ((i : Int).toNat) IntKind.u64.bits = i := by rw [Int.toNat_natCast]; exact Nat.min_eq_left hi
  rw [this, Int.natCast_ediv, Int.natCast_pow]; rfl
theorem pow_lt (i : Nat) (h : i < 64) : 2 ^ i < 18446744073709551616 := Nat.pow_lt_pow_right (by decide) h
theorem or_clear (m i : Nat) (h : m.testBit i = false) : m ||| 2 ^ i = m + 2 ^ i := by
  have hp : 0 < 2 ^ i := Nat.two_pow_pos i
  have hb : m / 2 ^ i % 2 = 0 := by
    rw [Nat.testBit_eq_decide_div_mod_eq] at h
    have := of_decide_eq_false h
    omega
  obtain ⟨q, hq⟩ : ∃ q, m / 2 ^ i = 2 * q := ⟨m / 2 ^ i / 2, by omega⟩
  have hm : m = 2 ^ i * (2 * q) + m % 2 ^ i := by rw [← hq]; exact (Nat.div_add_mod m (2 ^ i)).symm
  have hr : m % 2 ^ i < 2 ^ i := Nat.mod_lt _ hp
  generalize m % 2 ^ i = r at hm hr
  subst hm
  have e1 := Nat.two_pow_add_eq_or_of_lt (i := i) hr (2 * q)
  have e2 := Nat.two_pow_add_eq_or_of_lt (i := i) hr (2 * q + 1)
  have e3 : 2 ^ i * (2 * q + 1) = 2 ^ i * (2 * q) ||| 2 ^ i := by
    have h2 : 2 ^ i < 2 ^ (i + 1) := Nat.pow_lt_pow_right (by decide) (by omega)
    have := Nat.two_pow_add_eq_or_of_lt (i := i + 1) h2 q
    rw [show 2 ^ (i + 1) * q = 2 ^ i * (2 * q) by rw [Nat.pow_succ, Nat.mul_assoc]] at this
    rw [← this, Nat.mul_add, Nat.mul_one]
  rw [e1, Nat.or_assoc, Nat.or_comm r, ← Nat.or_assoc, ← e3, ← e2, Nat.mul_add, Nat.mul_one, ← e1]
  omega
theorem or_lt (m i : Nat) (hm : m < 18446744073709551616) (h : i < 64) : m ||| 2 ^ i < 18446744073709551616 := Nat.or_lt_two_pow (n := 64) hm (pow_lt i h)

def ofV : List Int → Nat → Int × Int
  | [], m => ((m : Int), 0)
  | x :: l, m => if x < 0 then (0, 10) else if x ≥ 64 then (0, 10) else ofV l (m ||| 2 ^ x.toNat)
theorem of_l0 (L : List Int) (hL : L.length < 9223372036854775807) : ∀ (r i m : Nat), i + r = L.length → m < 18446744073709551616 → Ev (fun k => bits_Of.l0 k (m : Int) L (L.length : Int) (i : Int)) (ofV (L.drop i) m)
  | 0, i, m, h, hm => by
    refine Ev.step (fun k => bits_Of.l0.eq_2 ..) ?_
    rw [List.drop_eq_nil_of_le (by omega)]
    simp only [if_neg (show ¬ (i : Int) < (L.length : Int) by omega)]
    exact Ev.now _
  | r + 1, i, m, h, hm => by
    refine Ev.step (fun k => bits_Of.l0.eq_2 ..) ?_
    have hi : i < L.length := by omega
    rw [rd_cons L i hi]
    generalize rd L (i : Int) = x
    simp only [if_pos (show (i : Int) < (L.length : Int) by omega), if_pos (show (0 : Int) ≤ (i : Int) by omega), ofV]
    by_cases h0 : x < 0
    · simp only [if_pos h0]; exact Ev.now _
    · by_cases h1 : x ≥ 64
      · simp only [if_neg h0, if_pos h1]; exact Ev.now _
      · obtain ⟨j, rfl⟩ := Int.eq_ofNat_of_zero_le (show 0 ≤ x by omega)
        have hj : j < 64 := by omega
        have e1 : shl .u64 1 (j : Int) = ((2 ^ j : Nat) : Int) := by
          have := shl_nat 1 j (by omega)
          rw [Nat.one_mul, Nat.mod_eq_of_lt (pow_lt j hj)] at this
          exact this
        simp only [if_neg h0, if_neg h1, wrapu j (by omega), if_pos (show (0 : Int) ≤ (j : Int) by omega), e1, u64_or_nat m (2 ^ j) hm (pow_lt j hj), Int.toNat_natCast, wrap_succ i (by omega)]
        exact of_l0 L hL r (i + 1) (m ||| 2 ^ j) (by omega) (or_lt m j hm hj)
theorem of_ev (L : List Int) (hL : L.length < 9223372036854775807) : Ev (fun k => bits_Of.f k L) (ofV L 0) := of_l0 L hL L.length 0 0 (by omega) (by decide)
theorem list_eq (s : Nat) (hs : s < 18446744073709551616) : bits_List.f (s : Int) = some (bl s) := by
  unfold bits_List.f
  rw [if_pos (by omega), Int.toNat_natCast]
end Go.Proofs.YtpaikjnmopkekaaDoor.BitA
