/- BitB, for the statement BitsMoves: what it needs, no more. -/
import Derived.Test.YtpaikjnmopkekaaDoorZBitsMovesBitA
namespace Go.Proofs.YtpaikjnmopkekaaDoor.Iter
end Go.Proofs.YtpaikjnmopkekaaDoor.Iter
namespace Go.Proofs.YtpaikjnmopkekaaDoor.P
end Go.Proofs.YtpaikjnmopkekaaDoor.P
namespace Go.Proofs.YtpaikjnmopkekaaDoor.Plain
end Go.Proofs.YtpaikjnmopkekaaDoor.Plain
namespace Go.Proofs.YtpaikjnmopkekaaDoor.BitA
open Go.RowKit Go.Proofs.YtpaikjnmopkekaaDoor.P Go.Proofs.YtpaikjnmopkekaaDoor.Plain Go.Proofs.YtpaikjnmopkekaaDoor.Iter Go.Proofs.YtpaikjnmopkekaaDoorW.PrintWords Go.Proofs.YtpaikjnmopkekaaDoorW.PrintLast Go.Proofs.YtpaikjnmopkekaaDoorW.PrintMore
set_option linter.unusedVariables false
set_option linter.unusedSimpArgs false
def movB (s : Nat) (by_ : Int) (n : Nat) : Nat := if by_ < 0 then (s / 2 ^ (-by_).toNat) &&& (2 ^ n - 1) else (s * 2 ^ by_.toNat % 18446744073709551616) &&& (2 ^ n - 1)
def movV (s : Nat) (by_ n : Int) : Int × Int := if n < 0 then (0, 10) else if n > 64 then (0, 10) else if by_ < -64 then (0, 10) else if by_ > 64 then (0, 10) else (((movB s by_ n.toNat : Nat) : Int), 0)
theorem mask_lt (n : Nat) (hn : n ≤ 64) : 2 ^ n - 1 < 18446744073709551616 := by
  have := Nat.pow_le_pow_right (n := 2) (by decide) hn
  have := Nat.two_pow_pos n
  omega
theorem movB_lt (s : Nat) (b : Int) (n : Nat) (hn : n ≤ 64) : movB s b n < 18446744073709551616 := by
  unfold movB
  split <;> exact Nat.lt_of_le_of_lt Nat.and_le_right (mask_lt n hn)
theorem fullV_in (n : Nat) (hn : n ≤ 64) : fullV (n : Int) = (((2 ^ n - 1 : Nat) : Int), 0) := by
  unfold fullV; rw [if_neg (by omega), if_neg (by omega), Int.toNat_natCast]
theorem move_ev (s : Nat) (hs : s < 18446744073709551616) (b n : Int) : Ev (fun k => bits_Move.f k (s : Int) b n) (movV s b n) := by
  unfold bits_Move.f movV
  rw [full_eq]
  simp only [Option.bind_some]
  by_cases h0 : n < 0
  · simp only [fullV, if_pos h0, if_neg (show ¬ (10 : Int) = 0 by decide)]
    refine Ev.step (fun k => bits_Move.j0.eq_2 ..) ?_
    simp only [if_true]; exact Ev.now _
  by_cases h1 : n > 64
  · simp only [fullV, if_neg h0, if_pos h1, if_neg (show ¬ (10 : Int) = 0 by decide)]
    refine Ev.step (fun k => bits_Move.j0.eq_2 ..) ?_
    simp only [if_true]; exact Ev.now _
  obtain ⟨n, rfl⟩ := Int.eq_ofNat_of_zero_le (show 0 ≤ n by omega)
  rw [fullV_in n (by omega)]
  simp only [if_true, if_neg h0, if_neg h1]
  have hml := mask_lt n (by omega)
  by_cases h2 : b < -64
  · simp only [if_pos h2]
    refine Ev.step (fun k => bits_Move.j0.eq_2 ..) ?_
    simp only [if_true]; exact Ev.now _
  simp only [if_neg h2]
  refine Ev.step (fun k => bits_Move.j0.eq_2 ..) ?_
  by_cases h3 : b > 64
  · simp only [if_pos h3, decide_eq_true h3, if_true]; exact Ev.now _
  simp only [if_neg h3, decide_eq_false h3, Bool.false_eq_true, if_false]
  by_cases h4 : b < 0
  · obtain ⟨d, hd⟩ := Int.eq_ofNat_of_zero_le (show 0 ≤ -b by omega)
    have e1 : wrap64 (-b) = (d : Int) := by unfold wrap64; omega
    simp only [if_pos h4, e1, wrapu d (by omega), if_pos (show (0 : Int) ≤ (d : Int) by omega), shr_nat s d (by omega), u64_and_nat _ _ (Nat.lt_of_le_of_lt (Nat.div_le_self s (2 ^ d)) hs) hml]
    have e2 : movB s b (n : Int).toNat = s / 2 ^ d &&& 2 ^ n - 1 := by unfold movB; rw [if_pos h4, hd]; rfl
    rw [e2]; exact Ev.now _
  · obtain ⟨d, rfl⟩ := Int.eq_ofNat_of_zero_le (show 0 ≤ b by omega)
    simp only [if_neg h4, wrapu d (by omega), if_pos (show (0 : Int) ≤ (d : Int) by omega), shl_nat s d (by omega), u64_and_nat _ _ (Nat.mod_lt (s * 2 ^ d) (by decide)) hml]
    have e2 : movB s (d : Int) (n : Int).toNat = s * 2 ^ d % 18446744073709551616 &&& 2 ^ n - 1 := by unfold movB; rw [if_neg h4]; rfl
    rw [e2]; exact Ev.now _
/-- Which ones the moved set has. -/
theorem movB_bit (s : Nat) (b : Int) (n : Nat) (hn : n ≤ 64) (t : Nat) (ht : t < 64) : (movB s b n).testBit t = (decide (t < n) && (decide (0 ≤ (t : Int) - b) && s.testBit ((t : Int) - b).toNat)) := by
  unfold movB
  by_cases h : b < 0
  · obtain ⟨d, hd⟩ := Int.eq_ofNat_of_zero_le (show 0 ≤ -b by omega)
    rw [if_pos h, hd, show ((d : Int)).toNat = d from rfl, show ((t : Int) - b).toNat = d + t by omega, decide_eq_true (show (0 : Int) ≤ (t : Int) - b by omega), Bool.true_and, Nat.testBit_and, Nat.testBit_div_two_pow, Nat.testBit_two_pow_sub_one, Bool.and_comm, Nat.add_comm]
  · obtain ⟨d, rfl⟩ := Int.eq_ofNat_of_zero_le (show 0 ≤ b by omega)
    rw [if_neg h, show ((d : Int)).toNat = d from rfl, Nat.testBit_and, Nat.testBit_two_pow_sub_one, show (18446744073709551616 : Nat) = 2 ^ 64 from rfl, Nat.testBit_mod_two_pow, decide_eq_true ht, Bool.true_and, Bool.and_comm, Nat.mul_comm, Nat.testBit_two_pow_mul]
    by_cases h2 : d ≤ t
    · rw [decide_eq_true (show t ≥ d from h2), decide_eq_true (show (0 : Int) ≤ (t : Int) - (d : Int) by omega), show ((t : Int) - (d : Int)).toNat = t - d by omega]
    · rw [decide_eq_false (show ¬ t ≥ d from h2), decide_eq_false (show ¬ (0 : Int) ≤ (t : Int) - (d : Int) by omega)]; simp
theorem mod_step (x i : Nat) : x % 2 ^ (i + 1) = x % 2 ^ i + 2 ^ i * (x.testBit i).toNat := by
  rw [Nat.mod_pow_succ, Nat.toNat_testBit]
/-- All that the loop has added by index i. -/
def upTo (r : Nat) (b : Int) (i : Nat) : Nat := if (i : Int) + b < 0 then 0 else r % 2 ^ ((i : Int) + b).toNat
theorem upTo_lt (r : Nat) (b : Int) (i : Nat) (hr : r < 18446744073709551616) : upTo r b i < 18446744073709551616 := by
  unfold upTo
  split
  · decide
  · exact Nat.lt_of_le_of_lt (Nat.mod_le _ _) hr
theorem move_l0 (s : Nat) (hs : s < 18446744073709551616) (b : Int) (hb1 : -64 ≤ b) (hb2 : b ≤ 64) (n : Nat) (hn : n ≤ 64) : ∀ (r i : Nat), i + r = 64 →
    Ev (fun k => stackyardref01_Move.l0 k (s : Int) b (n : Int) ((upTo (movB s b n) b i : Nat) : Int) (i : Int)) (((movB s b n : Nat) : Int), 0)
  | 0, i, h => by
    refine Ev.step (fun k => stackyardref01_Move.l0.eq_2 ..) ?_
    obtain rfl : i = 64 := by omega
    have e : upTo (movB s b n) b 64 = movB s b n := by
      unfold upTo
      rw [if_neg (by omega)]
      refine Nat.eq_of_testBit_eq fun t => ?_
      rw [Nat.testBit_mod_two_pow]
      by_cases ht : t < 64
      · rw [movB_bit s b n hn t ht]
        by_cases h2 : t < (((64 : Nat) : Int) + b).toNat
        · rw [decide_eq_true h2, Bool.true_and]
        · rw [decide_eq_false h2, Bool.false_and]
          have h3 : s.testBit ((t : Int) - b).toNat = false := Nat.testBit_lt_two_pow (Nat.lt_of_lt_of_le hs (Nat.pow_le_pow_right (n := 2) (by decide) (show 64 ≤ ((t : Int) - b).toNat by omega)))
          rw [h3]; simp
      · rw [Nat.testBit_lt_two_pow (Nat.lt_of_lt_of_le (movB_lt s b n hn) (Nat.pow_le_pow_right (n := 2) (by decide) (show 64 ≤ t by omega))), Bool.and_false]
    simp only [if_neg (show ¬ ((64 : Nat) : Int) < 64 by omega), e]
    exact Ev.now _
  | r + 1, i, h => by
    refine Ev.step (fun k => stackyardref01_Move.l0.eq_2 ..) ?_
    have ew : wrap64 ((i : Int) + b) = (i : Int) + b := by unfold wrap64; omega
    simp only [if_pos (show (i : Int) < 64 by omega), wrap_succ i (by omega), ew]
    refine Ev.bind (has_ev s hs (i : Int)) ?_
    rw [hasB_nat s i (by omega)]
    have ih := move_l0 s hs b hb1 hb2 n hn r (i + 1) (by omega)
    have hrl := movB_lt s b n hn
    -- what one round adds
    have hstep : upTo (movB s b n) b (i + 1) = upTo (movB s b n) b i + (if 0 ≤ (i : Int) + b ∧ (i : Int) + b < n ∧ s.testBit i = true then 2 ^ ((i : Int) + b).toNat else 0) := by
      unfold upTo
      by_cases h0 : (i : Int) + b < 0
      · rw [if_pos h0, if_neg (show ¬ (0 ≤ (i : Int) + b ∧ _) from fun h => by omega)]
        by_cases h1 : ((i + 1 : Nat) : Int) + b < 0
        · rw [if_pos h1]
        · rw [if_neg h1, show (((i + 1 : Nat) : Int) + b).toNat = 0 by omega, Nat.pow_zero, Nat.mod_one]
      · rw [if_neg h0, if_neg (by omega)]
        obtain ⟨t, ht⟩ := Int.eq_ofNat_of_zero_le (show 0 ≤ (i : Int) + b by omega)
        rw [show (((i + 1 : Nat) : Int) + b).toNat = t + 1 by omega, ht, show ((t : Int)).toNat = t from rfl, mod_step]
        by_cases h64 : t < 64
        · rw [movB_bit s b n hn t h64, show ((t : Int) - b).toNat = i by omega, decide_eq_true (show (0 : Int) ≤ (t : Int) - b by omega), Bool.true_and]
          by_cases c : t < n ∧ s.testBit i = true
          · rw [if_pos ⟨by omega, by omega, c.2⟩, decide_eq_true c.1, c.2]; simp
          · rw [if_neg (fun hh => c ⟨by omega, hh.2.2⟩)]
            have : (decide (t < n) && s.testBit i) = false := by
              rw [Bool.and_eq_false_iff]
              by_cases c1 : t < n
              · exact .inr (by simpa using fun hh => c ⟨c1, hh⟩)
              · exact .inl (decide_eq_false c1)
            rw [this]; simp
        · rw [Nat.testBit_lt_two_pow (Nat.lt_of_lt_of_le hrl (Nat.pow_le_pow_right (n := 2) (by decide) (show 64 ≤ t by omega))), if_neg (fun hh => by omega)]; simp
    by_cases hb : s.testBit i = true
    · simp only [if_pos hb]
      by_cases h0 : (i : Int) + b ≥ 0
      · simp only [if_pos h0]
        by_cases h1 : (i : Int) + b < (n : Int)
        · simp only [if_pos h1]
          rw [if_pos ⟨h0, h1, hb⟩] at hstep
          obtain ⟨t, ht⟩ := Int.eq_ofNat_of_zero_le h0
          rw [ht] at hstep ⊢
          refine Ev.bind (worth_ev t (by omega)) ?_
          have e : IntKind.u64.wrap (((upTo (movB s b n) b i : Nat) : Int) + ((2 ^ t : Nat) : Int)) = ((upTo (movB s b n) b (i + 1) : Nat) : Int) := by
            have := upTo_lt (movB s b n) b (i + 1) hrl
            rw [hstep] at this ⊢
            rw [show ((t : Int)).toNat = t from rfl] at this ⊢
            rw [← Int.natCast_add, wrapu _ this]
          rw [e]; exact ih
        · simp only [if_neg h1]
          rw [if_neg (fun hh => h1 hh.2.1)] at hstep
          have hq : upTo (movB s b n) b (i + 1) = upTo (movB s b n) b i := hstep
          rw [← hq]; exact ih
      · simp only [if_neg h0]
        rw [if_neg (fun hh => h0 hh.1)] at hstep
        have hq : upTo (movB s b n) b (i + 1) = upTo (movB s b n) b i := hstep
        rw [← hq]; exact ih
    · simp only [if_neg hb]
      rw [if_neg (fun hh => hb hh.2.2)] at hstep
      have hq : upTo (movB s b n) b (i + 1) = upTo (movB s b n) b i := hstep
      rw [← hq]; exact ih
theorem refMove_ev (s : Nat) (hs : s < 18446744073709551616) (b n : Int) : Ev (fun k => stackyardref01_Move.f k (s : Int) b n) (movV s b n) := by
  unfold stackyardref01_Move.f movV
  by_cases h0 : n < 0
  · simp only [if_pos h0]
    refine Ev.step (fun k => stackyardref01_Move.j0.eq_2 ..) ?_
    simp only [if_true]; exact Ev.now _
  by_cases h1 : n > 64
  · simp only [if_neg h0, if_pos h1]
    refine Ev.step (fun k => stackyardref01_Move.j0.eq_2 ..) ?_
    simp only [if_true]; exact Ev.now _
  by_cases h2 : b < -64
  · simp only [if_neg h0, if_neg h1, if_pos h2]
    refine Ev.step (fun k => stackyardref01_Move.j0.eq_2 ..) ?_
    simp only [if_true]; exact Ev.now _
  simp only [if_neg h0, if_neg h1, if_neg h2]
  refine Ev.step (fun k => stackyardref01_Move.j0.eq_2 ..) ?_
  by_cases h3 : b > 64
  · simp only [if_pos h3, decide_eq_true h3, if_true]; exact Ev.now _
  simp only [if_neg h3, decide_eq_false h3, Bool.false_eq_true, if_false]
  obtain ⟨n, rfl⟩ := Int.eq_ofNat_of_zero_le (show 0 ≤ n by omega)
  have := move_l0 s hs b (by omega) (by omega) n (by omega) 64 0 (by omega)
  have e : upTo (movB s b n) b 0 = 0 := by
    unfold upTo
    by_cases h : ((0 : Nat) : Int) + b < 0
    · rw [if_pos h]
    · rw [if_neg h]
      refine Nat.eq_of_testBit_eq fun t => ?_
      rw [Nat.testBit_mod_two_pow, Nat.zero_testBit]
      by_cases h2 : t < (((0 : Nat) : Int) + b).toNat
      · rw [movB_bit s b n (by omega) t (by omega), decide_eq_false (show ¬ (0 : Int) ≤ (t : Int) - b by omega)]; simp
      · rw [decide_eq_false h2, Bool.false_and]
  rw [e] at this
  exact this
end Go.Proofs.YtpaikjnmopkekaaDoor.BitA
