/- BitD, for the statement BitsBack: what it needs, no more. -/
import Derived.Test.YtpaikjnmopkekaaDoorZBitsBackBitC
import Derived.Laws.Bits128
namespace Go.Proofs.YtpaikjnmopkekaaDoor.Iter
end Go.Proofs.YtpaikjnmopkekaaDoor.Iter
namespace Go.Proofs.YtpaikjnmopkekaaDoor.P
end Go.Proofs.YtpaikjnmopkekaaDoor.P
namespace Go.Proofs.YtpaikjnmopkekaaDoor.Plain
end Go.Proofs.YtpaikjnmopkekaaDoor.Plain
namespace Go.Proofs.YtpaikjnmopkekaaDoor.BitA
open Go.RowKit Go.Proofs.YtpaikjnmopkekaaDoor.P Go.Proofs.YtpaikjnmopkekaaDoor.Plain Go.Proofs.YtpaikjnmopkekaaDoor.Iter Go.Proofs.YtpaikjnmopkekaaDoorW.PrintWords Go.Proofs.YtpaikjnmopkekaaDoorW.PrintLast Go.Proofs.YtpaikjnmopkekaaDoorW.PrintMore
set_option linter.unusedVariables false
set_option linter.unusedSimpArgs false
theorem and_le_mask (x m : Nat) : x &&& m ≤ m := Nat.and_le_right
theorem rep55 : rep 0x55 8 = 6148914691236517205 := by decide
theorem rep33 : rep 0x33 8 = 3689348814741910323 := by decide
theorem rep0f : rep 0x0f 8 = 1085102592571150095 := by decide
theorem wrapd (y d : Nat) : IntKind.u64.wrap ((y : Int) + (y : Int) / (d : Int)) = (((y + y / d) % 18446744073709551616 : Nat) : Int) := by
  rw [IntKind.wrap_u64, ← Int.natCast_ediv, ← Int.natCast_add, Int.natCast_emod]; rfl
theorem w127 (z : Nat) (h : z < 18446744073709551616) : Go.bits .and .i64 (wrap64 (z : Int)) 127 = ((z % 128 : Nat) : Int) := by
  rw [i64_and127]; unfold wrap64; omega
theorem wrap_high (x : Nat) (h1 : 9223372036854775808 ≤ x) (h2 : x < 18446744073709551616) : wrap64 (x : Int) = (x : Int) - 18446744073709551616 := by unfold wrap64; omega
theorem wrap_low (x : Nat) (h1 : x < 9223372036854775808) : wrap64 (x : Int) = (x : Int) := by unfold wrap64; omega
theorem count_eq (s : Nat) (hs : s < 18446744073709551616) : bits_Count.f (s : Int) = some ((bl s).length : Int) := by
  unfold bits_Count.f bits_OnesCount64.f
  have a1 : (s : Int) / 2 = ((s / 2 : Nat) : Int) := by omega
  have a2 : Go.bits .and .u64 ((s / 2 : Nat) : Int) 6148914691236517205 = ((s / 2 &&& rep 0x55 8 : Nat) : Int) := by rw [rep55]; exact u64_and_nat _ 6148914691236517205 (by omega) (by decide)
  have a3 : Go.bits .and .u64 (s : Int) 6148914691236517205 = ((s &&& rep 0x55 8 : Nat) : Int) := by rw [rep55]; exact u64_and_nat _ 6148914691236517205 (by omega) (by decide)
  have l1 := and_le_mask (s / 2) (rep 0x55 8)
  have l2 := and_le_mask s (rep 0x55 8)
  rw [rep55] at l1 l2
  have e1 : IntKind.u64.wrap (((s / 2 &&& rep 0x55 8 : Nat) : Int) + ((s &&& rep 0x55 8 : Nat) : Int)) = ((s1 8 s : Nat) : Int) := by
    rw [← Int.natCast_add]; unfold s1; rw [rep55]; exact wrapu _ (by omega)
  have hs1 : s1 8 s < 18446744073709551616 := by unfold s1; rw [rep55]; omega
  obtain ⟨x1, hx1⟩ : ∃ x, s1 8 s = x := ⟨_, rfl⟩
  rw [hx1] at e1 hs1
  have b1 : (x1 : Int) / 4 = ((x1 / 4 : Nat) : Int) := by omega
  have b2 : Go.bits .and .u64 ((x1 / 4 : Nat) : Int) 3689348814741910323 = ((x1 / 4 &&& rep 0x33 8 : Nat) : Int) := by rw [rep33]; exact u64_and_nat _ 3689348814741910323 (by omega) (by decide)
  have b3 : Go.bits .and .u64 (x1 : Int) 3689348814741910323 = ((x1 &&& rep 0x33 8 : Nat) : Int) := by rw [rep33]; exact u64_and_nat _ 3689348814741910323 (by omega) (by decide)
  have m1 := and_le_mask (x1 / 4) (rep 0x33 8)
  have m2 := and_le_mask x1 (rep 0x33 8)
  rw [rep33] at m1 m2
  have e2 : IntKind.u64.wrap (((x1 / 4 &&& rep 0x33 8 : Nat) : Int) + ((x1 &&& rep 0x33 8 : Nat) : Int)) = ((s2 8 x1 : Nat) : Int) := by
    rw [← Int.natCast_add]; unfold s2; rw [rep33]; exact wrapu _ (by omega)
  have hs2 : s2 8 x1 ≤ 2 * 3689348814741910323 := by unfold s2; rw [rep33]; omega
  obtain ⟨x2, hx2⟩ : ∃ x, s2 8 x1 = x := ⟨_, rfl⟩
  rw [hx2] at e2 hs2
  have c1 : IntKind.u64.wrap ((x2 : Int) / 16 + (x2 : Int)) = ((x2 / 16 + x2 : Nat) : Int) := by
    rw [show (x2 : Int) / 16 + (x2 : Int) = ((x2 / 16 + x2 : Nat) : Int) by omega]; exact wrapu _ (by omega)
  have c2 : Go.bits .and .u64 ((x2 / 16 + x2 : Nat) : Int) 1085102592571150095 = ((s3 8 x2 : Nat) : Int) := by unfold s3; rw [rep0f]; exact u64_and_nat _ 1085102592571150095 (by omega) (by decide)
  have hy : s3 8 x2 = pops 8 s := by rw [← hx2, ← hx1]; exact stages 8 s (by omega)
  have hyl : s3 8 x2 ≤ 1085102592571150095 := by have := and_le_mask (x2 / 16 + x2) (rep 0x0f 8); rw [rep0f] at this; unfold s3; rw [rep0f]; exact this
  simp only [a1, a2, a3, e1, b1, b2, b3, e2, c1, c2]
  have f := fold_eq s
  rw [← hy] at f
  rw [bl_cnt, ← f]
  obtain ⟨y, hyy⟩ : ∃ y, s3 8 x2 = y := ⟨_, rfl⟩
  rw [hyy] at hyl ⊢
  unfold fold64
  obtain ⟨z1, g1⟩ : ∃ z, (y + y / 256) % 18446744073709551616 = z := ⟨_, rfl⟩
  have d1 : IntKind.u64.wrap ((y : Int) + (y : Int) / 256) = (z1 : Int) := by rw [← g1]; exact wrapd y 256
  obtain ⟨z2, g2⟩ : ∃ z, (z1 + z1 / 65536) % 18446744073709551616 = z := ⟨_, rfl⟩
  have d2 : IntKind.u64.wrap ((z1 : Int) + (z1 : Int) / 65536) = (z2 : Int) := by rw [← g2]; exact wrapd z1 65536
  obtain ⟨z3, g3⟩ : ∃ z, (z2 + z2 / 4294967296) % 18446744073709551616 = z := ⟨_, rfl⟩
  have d3 : IntKind.u64.wrap ((z2 : Int) + (z2 : Int) / 4294967296) = (z3 : Int) := by rw [← g3]; exact wrapd z2 4294967296
  dsimp only
  rw [g1, g2, g3]
  simp only [d1, d2, d3, Option.bind_some]
  have h3 : z3 < 18446744073709551616 := by rw [← g3]; exact Nat.mod_lt _ (by decide)
  rw [w127 z3 h3]

def fieldI (s at_ n : Nat) : Int := if (s / 2 ^ at_ % 2 ^ n).testBit (n - 1) then ((s / 2 ^ at_ % 2 ^ n : Nat) : Int) - ((2 ^ n : Nat) : Int) else ((s / 2 ^ at_ % 2 ^ n : Nat) : Int)
def fieldV (s : Nat) (at_ n : Int) : Int × Int := if n < 1 then (0, 10) else if n > 64 then (0, 10) else if at_ < 0 then (0, 10) else if at_ > 64 - n then (0, 10) else (fieldI s at_.toNat n.toNat, 0)
theorem shr64 (c : Int) (u : Nat) (hu : u ≤ 64) : shr .i64 (c * ((2 ^ u : Nat) : Int)) (u : Int) = c := by
  unfold shr
  have : min ((u : Int).toNat) IntKind.i64.bits = u := by rw [Int.toNat_natCast]; exact Nat.min_eq_left hu
  rw [this]
  have hp : (0 : Int) < (2 : Int) ^ u := by
    have := Nat.two_pow_pos u
    have e : ((2 ^ u : Nat) : Int) = (2 : Int) ^ u := by simp
    omega
  rw [Int.natCast_pow]
  exact Int.mul_ediv_cancel c (by show (2 : Int) ^ u ≠ 0; omega)
theorem two_mul_pow (n : Nat) (h : 1 ≤ n) : 2 ^ n = 2 * 2 ^ (n - 1) := by
  obtain ⟨k, rfl⟩ : ∃ k, n = k + 1 := ⟨n - 1, by omega⟩
  rw [Nat.pow_succ, Nat.add_sub_cancel, Nat.mul_comm]
theorem high_bit (v n : Nat) (h1 : 1 ≤ n) (hv : v < 2 ^ n) : v.testBit (n - 1) = decide (2 ^ (n - 1) ≤ v) := by
  have hp := Nat.two_pow_pos (n - 1)
  have e : 2 ^ n = 2 * 2 ^ (n - 1) := by exact two_mul_pow n (by omega)
  rw [Nat.testBit_eq_decide_div_mod_eq]
  generalize 2 ^ (n - 1) = q at hp e
  rw [e] at hv
  by_cases h : q ≤ v
  · have : v / q = 1 := Nat.div_eq_of_lt_le (by omega) (by omega)
    rw [this]; simp [h]
  · have : v / q = 0 := Nat.div_eq_of_lt (by omega)
    rw [this]; simp [h]
theorem field_eq (s : Nat) (hs : s < 18446744073709551616) (a n : Int) : bits_Field.f (s : Int) a n = some (fieldV s a n) := by
  unfold bits_Field.f fieldV
  by_cases h0 : n < 1
  · rw [if_pos h0, if_pos h0]
  by_cases h1 : n > 64
  · rw [if_neg h0, if_neg h0, if_pos h1, if_pos h1]
  by_cases h2 : a < 0
  · rw [if_neg h0, if_neg h0, if_neg h1, if_neg h1, if_pos h2, if_pos h2]
  have e0 : wrap64 (64 - n) = 64 - n := by unfold wrap64; omega
  by_cases h3 : a > 64 - n
  · rw [if_neg h0, if_neg h0, if_neg h1, if_neg h1, if_neg h2, if_neg h2, e0, if_pos h3, if_pos h3]
  obtain ⟨at_, rfl⟩ := Int.eq_ofNat_of_zero_le (show 0 ≤ a by omega)
  obtain ⟨m, rfl⟩ := Int.eq_ofNat_of_zero_le (show 0 ≤ n by omega)
  rw [if_neg h0, if_neg h0, if_neg h1, if_neg h1, if_neg h2, if_neg h2, e0, if_neg h3, if_neg h3]
  have e1 : (64 : Int) - (m : Int) = ((64 - m : Nat) : Int) := by omega
  rw [e1, wrapu at_ (by omega), wrapu (64 - m) (by omega), if_pos (by omega), if_pos (by omega), shr_nat s at_ (by omega), shl_nat _ (64 - m) (by omega)]
  have e2 : s / 2 ^ at_ * 2 ^ (64 - m) % 18446744073709551616 = (s / 2 ^ at_ % 2 ^ m) * 2 ^ (64 - m) := by
    rw [show (18446744073709551616 : Nat) = 2 ^ m * 2 ^ (64 - m) by rw [← Nat.pow_add, show m + (64 - m) = 64 by omega], Nat.mul_mod_mul_right]
  rw [e2]
  unfold fieldI
  rw [Int.toNat_natCast, Int.toNat_natCast]
  have hv : s / 2 ^ at_ % 2 ^ m < 2 ^ m := Nat.mod_lt _ (Nat.two_pow_pos m)
  rw [high_bit _ m (by omega) hv]
  generalize s / 2 ^ at_ % 2 ^ m = v at hv
  have hU : 2 ^ m * 2 ^ (64 - m) = 18446744073709551616 := by rw [← Nat.pow_add, show m + (64 - m) = 64 by omega]
  have hH : 2 ^ (m - 1) * 2 ^ (64 - m) = 9223372036854775808 := by rw [← Nat.pow_add, show m - 1 + (64 - m) = 63 by omega]
  have hp : 0 < 2 ^ (64 - m) := Nat.two_pow_pos _
  by_cases hb : 2 ^ (m - 1) ≤ v
  · rw [decide_eq_true hb]
    simp only [if_true]
    have g1 : 9223372036854775808 ≤ v * 2 ^ (64 - m) := by rw [← hH]; exact Nat.mul_le_mul_right _ hb
    have g2 : v * 2 ^ (64 - m) < 18446744073709551616 := by rw [← hU]; exact Nat.mul_lt_mul_of_pos_right hv hp
    have e3 : wrap64 ((v * 2 ^ (64 - m) : Nat) : Int) = ((v : Int) - ((2 ^ m : Nat) : Int)) * ((2 ^ (64 - m) : Nat) : Int) := by
      rw [Int.sub_mul, ← Int.natCast_mul, ← Int.natCast_mul, hU]
      exact wrap_high _ g1 g2
    rw [e3, shr64 _ _ (by omega)]
  · rw [decide_eq_false hb]
    simp only [Bool.false_eq_true, if_false]
    have g1 : v * 2 ^ (64 - m) < 9223372036854775808 := by rw [← hH]; exact Nat.mul_lt_mul_of_pos_right (by omega) hp
    have e3 : wrap64 ((v * 2 ^ (64 - m) : Nat) : Int) = (v : Int) * ((2 ^ (64 - m) : Nat) : Int) := by
      rw [← Int.natCast_mul]
      exact wrap_low _ g1
    rw [e3, shr64 _ _ (by omega)]
end Go.Proofs.YtpaikjnmopkekaaDoor.BitA
