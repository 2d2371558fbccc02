/- BitB, for the statement BitsThere: what it needs, no more. -/
import Derived.Test.YtpaikjnmopkekaaDoorZBitsThereBitA
namespace Go.Proofs.YtpaikjnmopkekaaDoor.Iter
end Go.Proofs.YtpaikjnmopkekaaDoor.Iter
namespace Go.Proofs.YtpaikjnmopkekaaDoor.P
end Go.Proofs.YtpaikjnmopkekaaDoor.P
namespace Go.Proofs.YtpaikjnmopkekaaDoor.Plain
end Go.Proofs.YtpaikjnmopkekaaDoor.Plain
namespace Go.Proofs.YtpaikjnmopkekaaDoor.BitA
open Go.RowKit Go.Proofs.YtpaikjnmopkekaaDoor.P Go.Proofs.YtpaikjnmopkekaaDoor.Plain Go.Proofs.YtpaikjnmopkekaaDoor.Iter Go.Proofs.YtpaikjnmopkekaaDoorW.PrintWords Go.Proofs.YtpaikjnmopkekaaDoorW.PrintLast Go.Proofs.YtpaikjnmopkekaaDoorW.PrintMore
set_option linter.unusedVariables false
set_option linter.unusedSimpArgs false
def movB (s : Nat) (by_ : Int) (n : Nat) : Nat := if by_ < 0 then (s / 2 ^ (-by_).toNat) &&& (2 ^ n - 1) else (s * 2 ^ by_.toNat % 18446744073709551616) &&& (2 ^ n - 1)
def movV (s : Nat) (by_ n : Int) : Int × Int := if n < 0 then (0, 10) else if n > 64 then (0, 10) else if by_ < -64 then (0, 10) else if by_ > 64 then (0, 10) else (((movB s by_ n.toNat : Nat) : Int), 0)
theorem mask_lt (n : Nat) (hn : n ≤ 64) : 2 ^ n - 1 < 18446744073709551616 := by
  have := Nat.pow_le_pow_right (n := 2) (by decide) hn
  have := Nat.two_pow_pos n
  omega
theorem movB_lt (s : Nat) (b : Int) (n : Nat) (hn : n ≤ 64) : movB s b n < 18446744073709551616 := by
  unfold movB
  split <;> exact Nat.lt_of_le_of_lt Nat.and_le_right (mask_lt n hn)
theorem fullV_in (n : Nat) (hn : n ≤ 64) : fullV (n : Int) = (((2 ^ n - 1 : Nat) : Int), 0) := by
  unfold fullV; rw [if_neg (by omega), if_neg (by omega), Int.toNat_natCast]
theorem move_ev (s : Nat) (hs : s < 18446744073709551616) (b n : Int) : Ev (fun k => bits_Move.f k (s : Int) b n) (movV s b n) := by
  unfold bits_Move.f movV
  rw [full_eq]
  simp only [Option.bind_some]
  by_cases h0 : n < 0
  · simp only [fullV, if_pos h0, if_neg (show ¬ (10 : Int) = 0 by decide)]
    refine Ev.step (fun k => bits_Move.j0.eq_2 ..) ?_
    simp only [if_true]; exact Ev.now _
  by_cases h1 : n > 64
  · simp only [fullV, if_neg h0, if_pos h1, if_neg (show ¬ (10 : Int) = 0 by decide)]
    refine Ev.step (fun k => bits_Move.j0.eq_2 ..) ?_
    simp only [if_true]; exact Ev.now _
  obtain ⟨n, rfl⟩ := Int.eq_ofNat_of_zero_le (show 0 ≤ n by omega)
  rw [fullV_in n (by omega)]
  simp only [if_true, if_neg h0, if_neg h1]
  have hml := mask_lt n (by omega)
  by_cases h2 : b < -64
  · simp only [if_pos h2]
    refine Ev.step (fun k => bits_Move.j0.eq_2 ..) ?_
    simp only [if_true]; exact Ev.now _
  simp only [if_neg h2]
  refine Ev.step (fun k => bits_Move.j0.eq_2 ..) ?_
  by_cases h3 : b > 64
  · simp only [if_pos h3, decide_eq_true h3, if_true]; exact Ev.now _
  simp only [if_neg h3, decide_eq_false h3, Bool.false_eq_true, if_false]
  by_cases h4 : b < 0
  · obtain ⟨d, hd⟩ := Int.eq_ofNat_of_zero_le (show 0 ≤ -b by omega)
    have e1 : wrap64 (-b) = (d : Int) := by unfold wrap64; omega
    simp only [if_pos h4, e1, wrapu d (by omega), if_pos (show (0 : Int) ≤ (d : Int) by omega), shr_nat s d (by omega), u64_and_nat _ _ (Nat.lt_of_le_of_lt (Nat.div_le_self s (2 ^ d)) hs) hml]
    have e2 : movB s b (n : Int).toNat = s / 2 ^ d &&& 2 ^ n - 1 := by unfold movB; rw [if_pos h4, hd]; rfl
    rw [e2]; exact Ev.now _
  · obtain ⟨d, rfl⟩ := Int.eq_ofNat_of_zero_le (show 0 ≤ b by omega)
    simp only [if_neg h4, wrapu d (by omega), if_pos (show (0 : Int) ≤ (d : Int) by omega), shl_nat s d (by omega), u64_and_nat _ _ (Nat.mod_lt (s * 2 ^ d) (by decide)) hml]
    have e2 : movB s (d : Int) (n : Int).toNat = s * 2 ^ d % 18446744073709551616 &&& 2 ^ n - 1 := by unfold movB; rw [if_neg h4]; rfl
    rw [e2]; exact Ev.now _
/-- Which ones the moved set has. -/
theorem movB_bit (s : Nat) (b : Int) (n : Nat) (hn : n ≤ 64) (t : Nat) (ht : t < 64) : (movB s b n).testBit t = (decide (t < n) && (decide (0 ≤ (t : Int) - b) && s.testBit ((t : Int) - b).toNat)) := by
  unfold movB
  by_cases h : b < 0
  · obtain ⟨d, hd⟩ := Int.eq_ofNat_of_zero_le (show 0 ≤ -b by omega)
    rw [if_pos h, hd, show ((d : Int)).toNat = d from rfl, show ((t : Int) - b).toNat = d + t by omega, decide_eq_true (show (0 : Int) ≤ (t : Int) - b by omega), Bool.true_and, Nat.testBit_and, Nat.testBit_div_two_pow, Nat.testBit_two_pow_sub_one, Bool.and_comm, Nat.add_comm]
  · obtain ⟨d, rfl⟩ := Int.eq_ofNat_of_zero_le (show 0 ≤ b by omega)
    rw [if_neg h, show ((d : Int)).toNat = d from rfl, Nat.testBit_and, Nat.testBit_two_pow_sub_one, show (18446744073709551616 : Nat) = 2 ^ 64 from rfl, Nat.testBit_mod_two_pow, decide_eq_true ht, Bool.true_and, Bool.and_comm, Nat.mul_comm, Nat.testBit_two_pow_mul]
    by_cases h2 : d ≤ t
    · rw [decide_eq_true (show t ≥ d from h2), decide_eq_true (show (0 : Int) ≤ (t : Int) - (d : Int) by omega), show ((t : Int) - (d : Int)).toNat = t - d by omega]
    · rw [decide_eq_false (show ¬ t ≥ d from h2), decide_eq_false (show ¬ (0 : Int) ≤ (t : Int) - (d : Int) by omega)]; simp
end Go.Proofs.YtpaikjnmopkekaaDoor.BitA
