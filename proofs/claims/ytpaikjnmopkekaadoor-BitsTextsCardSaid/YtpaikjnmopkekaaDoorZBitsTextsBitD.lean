/- BitD, for the statement BitsTexts: what it needs, no more. -/
import Derived.Test.YtpaikjnmopkekaaDoorZBitsTextsBitA
import Derived.Laws.Bits128
namespace Go.Proofs.YtpaikjnmopkekaaDoor.Iter
end Go.Proofs.YtpaikjnmopkekaaDoor.Iter
namespace Go.Proofs.YtpaikjnmopkekaaDoor.P
end Go.Proofs.YtpaikjnmopkekaaDoor.P
namespace Go.Proofs.YtpaikjnmopkekaaDoor.Plain
end Go.Proofs.YtpaikjnmopkekaaDoor.Plain
namespace Go.Proofs.YtpaikjnmopkekaaDoor.BitA
open Go.RowKit Go.Proofs.YtpaikjnmopkekaaDoor.P Go.Proofs.YtpaikjnmopkekaaDoor.Plain Go.Proofs.YtpaikjnmopkekaaDoor.Iter Go.Proofs.YtpaikjnmopkekaaDoorW.PrintWords Go.Proofs.YtpaikjnmopkekaaDoorW.PrintLast Go.Proofs.YtpaikjnmopkekaaDoorW.PrintMore
set_option linter.unusedVariables false
set_option linter.unusedSimpArgs false
theorem wrap_high (x : Nat) (h1 : 9223372036854775808 ≤ x) (h2 : x < 18446744073709551616) : wrap64 (x : Int) = (x : Int) - 18446744073709551616 := by unfold wrap64; omega
theorem wrap_low (x : Nat) (h1 : x < 9223372036854775808) : wrap64 (x : Int) = (x : Int) := by unfold wrap64; omega
def fieldI (s at_ n : Nat) : Int := if (s / 2 ^ at_ % 2 ^ n).testBit (n - 1) then ((s / 2 ^ at_ % 2 ^ n : Nat) : Int) - ((2 ^ n : Nat) : Int) else ((s / 2 ^ at_ % 2 ^ n : Nat) : Int)
def fieldV (s : Nat) (at_ n : Int) : Int × Int := if n < 1 then (0, 10) else if n > 64 then (0, 10) else if at_ < 0 then (0, 10) else if at_ > 64 - n then (0, 10) else (fieldI s at_.toNat n.toNat, 0)
theorem shr64 (c : Int) (u : Nat) (hu : u ≤ 64) : shr .i64 (c * ((2 ^ u : Nat) : Int)) (u : Int) = c := by
  unfold shr
  have : min ((u : Int).toNat) IntKind.i64.bits = u := by rw [Int.toNat_natCast]; exact Nat.min_eq_left hu
  rw [this]
  have hp : (0 : Int) < (2 : Int) ^ u := by
    have := Nat.two_pow_pos u
    have e : ((2 ^ u : Nat) : Int) = (2 : Int) ^ u := by simp
    omega
  rw [Int.natCast_pow]
  exact Int.mul_ediv_cancel c (by show (2 : Int) ^ u ≠ 0; omega)
theorem two_mul_pow (n : Nat) (h : 1 ≤ n) : 2 ^ n = 2 * 2 ^ (n - 1) := by
  obtain ⟨k, rfl⟩ : ∃ k, n = k + 1 := ⟨n - 1, by omega⟩
  rw [Nat.pow_succ, Nat.add_sub_cancel, Nat.mul_comm]
theorem high_bit (v n : Nat) (h1 : 1 ≤ n) (hv : v < 2 ^ n) : v.testBit (n - 1) = decide (2 ^ (n - 1) ≤ v) := by
  have hp := Nat.two_pow_pos (n - 1)
  have e : 2 ^ n = 2 * 2 ^ (n - 1) := by exact two_mul_pow n (by omega)
  rw [Nat.testBit_eq_decide_div_mod_eq]
  generalize 2 ^ (n - 1) = q at hp e
  rw [e] at hv
  by_cases h : q ≤ v
  · have : v / q = 1 := Nat.div_eq_of_lt_le (by omega) (by omega)
    rw [this]; simp [h]
  · have : v / q = 0 := Nat.div_eq_of_lt (by omega)
    rw [this]; simp [h]
theorem field_eq (s : Nat) (hs : s < 18446744073709551616) (a n : Int) : bits_Field.f (s : Int) a n = some (fieldV s a n) := by
  unfold bits_Field.f fieldV
  by_cases h0 : n < 1
  · rw [if_pos h0, if_pos h0]
  by_cases h1 : n > 64
  · rw [if_neg h0, if_neg h0, if_pos h1, if_pos h1]
  by_cases h2 : a < 0
  · rw [if_neg h0, if_neg h0, if_neg h1, if_neg h1, if_pos h2, if_pos h2]
  have e0 : wrap64 (64 - n) = 64 - n := by unfold wrap64; omega
  by_cases h3 : a > 64 - n
  · rw [if_neg h0, if_neg h0, if_neg h1, if_neg h1, if_neg h2, if_neg h2, e0, if_pos h3, if_pos h3]
  obtain ⟨at_, rfl⟩ := Int.eq_ofNat_of_zero_le (show 0 ≤ a by omega)
  obtain ⟨m, rfl⟩ := Int.eq_ofNat_of_zero_le (show 0 ≤ n by omega)
  rw [if_neg h0, if_neg h0, if_neg h1, if_neg h1, if_neg h2, if_neg h2, e0, if_neg h3, if_neg h3]
  have e1 : (64 : Int) - (m : Int) = ((64 - m : Nat) : Int) := by omega
  rw [e1, wrapu at_ (by omega), wrapu (64 - m) (by omega), if_pos (by omega), if_pos (by omega), shr_nat s at_ (by omega), shl_nat _ (64 - m) (by omega)]
  have e2 : s / 2 ^ at_ * 2 ^ (64 - m) % 18446744073709551616 = (s / 2 ^ at_ % 2 ^ m) * 2 ^ (64 - m) := by
    rw [show (18446744073709551616 : Nat) = 2 ^ m * 2 ^ (64 - m) by rw [← Nat.pow_add, show m + (64 - m) = 64 by omega], Nat.mul_mod_mul_right]
  rw [e2]
  unfold fieldI
  rw [Int.toNat_natCast, Int.toNat_natCast]
  have hv : s / 2 ^ at_ % 2 ^ m < 2 ^ m := Nat.mod_lt _ (Nat.two_pow_pos m)
  rw [high_bit _ m (by omega) hv]
  generalize s / 2 ^ at_ % 2 ^ m = v at hv
  have hU : 2 ^ m * 2 ^ (64 - m) = 18446744073709551616 := by rw [← Nat.pow_add, show m + (64 - m) = 64 by omega]
  have hH : 2 ^ (m - 1) * 2 ^ (64 - m) = 9223372036854775808 := by rw [← Nat.pow_add, show m - 1 + (64 - m) = 63 by omega]
  have hp : 0 < 2 ^ (64 - m) := Nat.two_pow_pos _
  by_cases hb : 2 ^ (m - 1) ≤ v
  · rw [decide_eq_true hb]
    simp only [if_true]
    have g1 : 9223372036854775808 ≤ v * 2 ^ (64 - m) := by rw [← hH]; exact Nat.mul_le_mul_right _ hb
    have g2 : v * 2 ^ (64 - m) < 18446744073709551616 := by rw [← hU]; exact Nat.mul_lt_mul_of_pos_right hv hp
    have e3 : wrap64 ((v * 2 ^ (64 - m) : Nat) : Int) = ((v : Int) - ((2 ^ m : Nat) : Int)) * ((2 ^ (64 - m) : Nat) : Int) := by
      rw [Int.sub_mul, ← Int.natCast_mul, ← Int.natCast_mul, hU]
      exact wrap_high _ g1 g2
    rw [e3, shr64 _ _ (by omega)]
  · rw [decide_eq_false hb]
    simp only [Bool.false_eq_true, if_false]
    have g1 : v * 2 ^ (64 - m) < 9223372036854775808 := by rw [← hH]; exact Nat.mul_lt_mul_of_pos_right (by omega) hp
    have e3 : wrap64 ((v * 2 ^ (64 - m) : Nat) : Int) = (v : Int) * ((2 ^ (64 - m) : Nat) : Int) := by
      rw [← Int.natCast_mul]
      exact wrap_low _ g1
    rw [e3, shr64 _ _ (by omega)]
end Go.Proofs.YtpaikjnmopkekaaDoor.BitA
