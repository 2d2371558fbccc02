/- BitE, for the statement BitsThere: what it needs, no more. -/
import Derived.Test.YtpaikjnmopkekaaDoorZBitsThereBitD
namespace Go.Proofs.YtpaikjnmopkekaaDoor.Iter
end Go.Proofs.YtpaikjnmopkekaaDoor.Iter
namespace Go.Proofs.YtpaikjnmopkekaaDoor.P
end Go.Proofs.YtpaikjnmopkekaaDoor.P
namespace Go.Proofs.YtpaikjnmopkekaaDoor.Plain
end Go.Proofs.YtpaikjnmopkekaaDoor.Plain
namespace Go.Proofs.YtpaikjnmopkekaaDoor.BitA
open Go.RowKit Go.Proofs.YtpaikjnmopkekaaDoor.P Go.Proofs.YtpaikjnmopkekaaDoor.Plain Go.Proofs.YtpaikjnmopkekaaDoor.Iter Go.Proofs.YtpaikjnmopkekaaDoorW.PrintWords Go.Proofs.YtpaikjnmopkekaaDoorW.PrintLast Go.Proofs.YtpaikjnmopkekaaDoorW.PrintMore
set_option linter.unusedVariables false
set_option linter.unusedSimpArgs false
theorem text_eq (s : Nat) (hs : s < 18446744073709551616) : bits_Text.f (s : Int) = some (textB s) := by
  unfold bits_Text.f
  rw [if_pos (by omega), Int.toNat_natCast]
theorem itoa0 : Go.Lib.itoa 0 = [48] := by decide +kernel
theorem itoa3 : Go.Lib.itoa 3 = [51] := by decide +kernel
theorem bl9 : bl 9 = [0, 3] := by decide +kernel
theorem text9 : (textB 9).toList = ([123, 48, 44, 51, 125] : List UInt8) := by
  rw [toList_eq]
  unfold textB inner strs numS
  rw [bl9]
  simp only [List.map_cons, List.map_nil, itoa0, itoa3]
  decide +kernel
theorem alive_ev : Ev (fun k => stackyardlaw01_alive.f k) true := by
  unfold stackyardlaw01_alive.f
  refine Ev.bind (of_ev [0, 3] (by decide)) ?_
  have e1 : ofV [0, 3] 0 = (9, 0) := by decide +kernel
  have e2 : bits_Field.f 240 4 4 = some (-1, 0) := by
    have := field_eq 240 (by decide) 4 4
    rw [show fieldV 240 4 4 = (-1, 0) by decide +kernel] at this
    exact this
  have e3 : bits_Text.f 9 = some (textB 9) := text_eq 9 (by decide)
  simp only [e1, e2, e3, Option.bind_some, if_true, text9]
  exact Ev.now _
theorem there_l0 (s c : Nat) (hs : s < 18446744073709551616) (hc : c < 18446744073709551616) (b : Int) (hb1 : -64 ≤ b) (hb2 : b ≤ 64)
    (H : ∀ i, i < 64 → c.testBit i = (s.testBit i && decide (0 ≤ (i : Int) + b ∧ (i : Int) + b < 64))) : ∀ (r i : Nat), i + r = 64 → Ev (fun k => stackyardlaw01_BitsThere.l0 k (s : Int) b (c : Int) (i : Int)) true
  | 0, i, h => by
    refine Ev.step (fun k => stackyardlaw01_BitsThere.l0.eq_2 ..) ?_
    simp only [if_neg (show ¬ (i : Int) < 64 by omega)]
    exact Ev.bind alive_ev (Ev.now _)
  | r + 1, i, h => by
    refine Ev.step (fun k => stackyardlaw01_BitsThere.l0.eq_2 ..) ?_
    have ew : wrap64 ((i : Int) + b) = (i : Int) + b := by unfold wrap64; omega
    simp only [if_pos (show (i : Int) < 64 by omega), wrap_succ i (by omega), ew, bhas_eq c hc, Option.bind_some]
    refine Ev.bind (has_ev s hs _) ?_
    rw [hasB_nat s i (by omega), hasB_nat c i (by omega), H i (by omega)]
    have ih := there_l0 s c hs hc b hb1 hb2 H r (i + 1) (by omega)
    cases hb : s.testBit i
    · simp only [Bool.false_and, Bool.false_eq_true, if_false, bne_self_eq_false]
      exact ih
    · simp only [Bool.true_and, if_true]
      by_cases h0 : (i : Int) + b ≥ 0
      · simp only [if_pos h0, show (0 ≤ (i : Int) + b) = True from eq_true h0, true_and, bne_self_eq_false, Bool.false_eq_true, if_false]
        exact ih
      · simp only [if_neg h0, show (0 ≤ (i : Int) + b) = False from eq_false (by omega), false_and, decide_false, bne_self_eq_false, Bool.false_eq_true, if_false]
        exact ih
theorem BitsThere (s : Nat) (b : Int) (hs : s < 18446744073709551616) : Ev (fun k => stackyardlaw01_BitsThere.f k (s : Int) b) true := by
  unfold stackyardlaw01_BitsThere.f
  refine Ev.bind (move_ev s hs b 64) ?_
  by_cases h : -64 ≤ b ∧ b ≤ 64
  · have e : movV s b 64 = (((movB s b 64 : Nat) : Int), 0) := by
      unfold movV; rw [if_neg (by decide), if_neg (by decide), if_neg (by omega), if_neg (by omega)]; rfl
    have hl := movB_lt s b 64 (by decide)
    have ew : wrap64 (-b) = -b := by unfold wrap64; omega
    simp only [e, if_true, ew]
    refine Ev.bind (move_ev _ hl (-b) 64) ?_
    have e2 : movV (movB s b 64) (-b) 64 = (((movB (movB s b 64) (-b) 64 : Nat) : Int), 0) := by
      unfold movV; rw [if_neg (by decide), if_neg (by decide), if_neg (by omega), if_neg (by omega)]; rfl
    simp only [e2, if_true]
    refine there_l0 s _ hs (movB_lt _ _ 64 (by decide)) b h.1 h.2 (fun i hi => ?_) 64 0 (by omega)
    rw [movB_bit _ (-b) 64 (by decide) i hi, decide_eq_true hi, Bool.true_and]
    rw [show (i : Int) - -b = (i : Int) + b by omega]
    by_cases h0 : 0 ≤ (i : Int) + b
    · obtain ⟨t, ht⟩ := Int.eq_ofNat_of_zero_le h0
      rw [ht, decide_eq_true (show (0 : Int) ≤ (t : Int) by omega), Bool.true_and, show ((t : Int)).toNat = t from rfl]
      by_cases h1 : t < 64
      · rw [movB_bit s b 64 (by decide) t h1, decide_eq_true h1, Bool.true_and, show ((t : Int) - b).toNat = i by omega, decide_eq_true (show (0 : Int) ≤ (t : Int) - b by omega), decide_eq_true (show (0 : Int) ≤ (t : Int) ∧ (t : Int) < 64 by omega)]; simp
      · rw [Nat.testBit_lt_two_pow (Nat.lt_of_lt_of_le hl (Nat.pow_le_pow_right (n := 2) (by decide) (show 64 ≤ t by omega))), decide_eq_false (show ¬ ((0 : Int) ≤ (t : Int) ∧ (t : Int) < 64) by omega)]; simp
    · rw [decide_eq_false h0, decide_eq_false (show ¬ (0 ≤ (i : Int) + b ∧ (i : Int) + b < 64) by omega)]; simp
  · have e : movV s b 64 = (0, 10) := by
      unfold movV; rw [if_neg (by decide), if_neg (by decide)]
      by_cases h1 : b < -64
      · rw [if_pos h1]
      · rw [if_neg h1, if_pos (by omega)]
    simp only [e, if_neg (show ¬ (10 : Int) = 0 by decide), if_true]
    exact Ev.bind alive_ev (Ev.now _)
end Go.Proofs.YtpaikjnmopkekaaDoor.BitA
