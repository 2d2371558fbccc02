/- BitA, for the statement BitsTexts: what it needs, no more. -/
import Derived.Test.YtpaikjnmopkekaaDoorZBitsTextsPx0
import Derived.Test.YtpaikjnmopkekaaDoorZBitsTextsPx1
import Derived.Test.YtpaikjnmopkekaaDoorZBitsTextsPx2
import Derived.Test.YtpaikjnmopkekaaDoorZBitsTextsPx4
import Derived.Test.YtpaikjnmopkekaaDoorZBitsTextsPx5
import Derived.Test.YtpaikjnmopkekaaDoorZBitsTextsPx6
import Derived.Test.YtpaikjnmopkekaaDoorZBitsTextsPlain
import Derived.Test.YtpaikjnmopkekaaDoorIterList
import Derived.Test.YtpaikjnmopkekaaDoorIterNext
import Derived.Test.YtpaikjnmopkekaaDoorIterText
import Derived.Laws.BitsAllLaws
namespace Go.Proofs.YtpaikjnmopkekaaDoor.Iter
end Go.Proofs.YtpaikjnmopkekaaDoor.Iter
namespace Go.Proofs.YtpaikjnmopkekaaDoor.P
end Go.Proofs.YtpaikjnmopkekaaDoor.P
namespace Go.Proofs.YtpaikjnmopkekaaDoor.Plain
end Go.Proofs.YtpaikjnmopkekaaDoor.Plain
namespace Go.Proofs.YtpaikjnmopkekaaDoor.BitA
open Go.RowKit Go.Proofs.YtpaikjnmopkekaaDoor.P Go.Proofs.YtpaikjnmopkekaaDoor.Plain Go.Proofs.YtpaikjnmopkekaaDoor.Iter Go.Proofs.YtpaikjnmopkekaaDoorW.PrintWords Go.Proofs.YtpaikjnmopkekaaDoorW.PrintLast Go.Proofs.YtpaikjnmopkekaaDoorW.PrintMore
set_option linter.unusedVariables false
set_option linter.unusedSimpArgs false
theorem wrapu (i : Nat) (h : i < 18446744073709551616) : IntKind.u64.wrap (i : Int) = (i : Int) := by rw [IntKind.wrap_u64]; omega
theorem shl_nat (m i : Nat) (hi : i ≤ 64) : shl .u64 (m : Int) (i : Int) = ((m * 2 ^ i % 18446744073709551616 : Nat) : Int) := by
  unfold shl
  have : min ((i : Int).toNat) IntKind.u64.bits = i := by rw [Int.toNat_natCast]; exact Nat.min_eq_left hi
  rw [this, IntKind.wrap_u64, Int.natCast_emod, Int.natCast_mul, Int.natCast_pow]; rfl
theorem shr_nat (m i : Nat) (hi : i ≤ 64) : shr .u64 (m : Int) (i : Int) = ((m / 2 ^ i : Nat) : Int) := by
  unfold shr
  have : min ((i : Int).toNat) IntKind.u64.bits = i := by rw [Int.toNat_natCast]; exact Nat.min_eq_left hi
  rw [this, Int.natCast_ediv, Int.natCast_pow]; rfl
theorem pow_lt (i : Nat) (h : i < 64) : 2 ^ i < 18446744073709551616 := Nat.pow_lt_pow_right (by decide) h
theorem or_lt (m i : Nat) (hm : m < 18446744073709551616) (h : i < 64) : m ||| 2 ^ i < 18446744073709551616 := Nat.or_lt_two_pow (n := 64) hm (pow_lt i h)

theorem worth_l0 : ∀ (i x : Nat), i < 64 → x * 2 ^ i < 18446744073709551616 → Ev (fun k => stackyardref01_Worth.l0 k (i : Int) (x : Int)) ((x * 2 ^ i : Nat) : Int)
  | 0, x, _, h => by
    refine Ev.step (fun k => stackyardref01_Worth.l0.eq_2 ..) ?_
    simp only [if_neg (show ¬ ((0 : Nat) : Int) > 0 by omega), Nat.pow_zero, Nat.mul_one]
    exact Ev.now _
  | i + 1, x, hi, h => by
    refine Ev.step (fun k => stackyardref01_Worth.l0.eq_2 ..) ?_
    have e1 : wrap64 (((i + 1 : Nat) : Int) - 1) = (i : Int) := by unfold wrap64; omega
    have hx : x * 2 < 18446744073709551616 := by
      refine Nat.lt_of_le_of_lt ?_ h
      rw [Nat.pow_succ, Nat.mul_comm (2 ^ i), ← Nat.mul_assoc]
      exact Nat.le_mul_of_pos_right _ (Nat.two_pow_pos i)
    have e2 : IntKind.u64.wrap ((x : Int) * 2) = ((x * 2 : Nat) : Int) := by rw [IntKind.wrap_u64]; omega
    simp only [if_pos (show ((i + 1 : Nat) : Int) > 0 by omega), e1, e2]
    have := worth_l0 i (x * 2) (by omega) (by rw [Nat.mul_assoc, ← Nat.pow_succ']; exact h)
    rw [Nat.mul_assoc, ← Nat.pow_succ'] at this
    exact this
theorem worth_ev (i : Nat) (hi : i < 64) : Ev (fun k => stackyardref01_Worth.f k (i : Int)) ((2 ^ i : Nat) : Int) := by
  have := worth_l0 i 1 hi (by rw [Nat.one_mul]; exact pow_lt i hi)
  rw [Nat.one_mul] at this
  exact this
def hasB (s : Nat) (a : Int) : Bool := decide (0 ≤ a) && (decide (a < 64) && s.testBit a.toNat)
theorem hasB_nat (s i : Nat) (hi : i < 64) : hasB s (i : Int) = s.testBit i := by
  unfold hasB; rw [decide_eq_true (by omega), decide_eq_true (by omega)]; simp
theorem tdivmod (s p : Nat) (hs : s < 18446744073709551616) : Int.tmod (IntKind.u64.wrap (Int.tdiv (s : Int) (p : Int))) 2 = ((s / p % 2 : Nat) : Int) := by
  rw [Int.tdiv_eq_ediv_of_nonneg (by omega), ← Int.natCast_ediv, wrapu _ (Nat.lt_of_le_of_lt (Nat.div_le_self ..) hs)]
  generalize s / p = q
  rw [Int.tmod_eq_emod_of_nonneg (by omega)]; omega
theorem beq_one (n : Nat) : (((n : Nat) : Int) == 1) = decide (n = 1) := by
  rw [Bool.eq_iff_iff]; simp; omega
theorem has_ev (s : Nat) (hs : s < 18446744073709551616) (a : Int) : Ev (fun k => stackyardref01_Has.f k (s : Int) a) (hasB s a) := by
  unfold stackyardref01_Has.f hasB
  by_cases h0 : 0 ≤ a
  · by_cases h1 : a < 64
    · obtain ⟨i, rfl⟩ := Int.eq_ofNat_of_zero_le h0
      simp only [if_pos (show ((i : Int)) ≥ 0 from h0), if_pos h1, decide_eq_true h0, decide_eq_true h1, Bool.true_and]
      refine Ev.bind (worth_ev i (by omega)) ?_
      have hp : 0 < 2 ^ i := Nat.two_pow_pos i
      rw [if_neg (by omega)]
      have e := tdivmod s (2 ^ i) hs
      rw [e, Int.toNat_natCast, Nat.testBit_eq_decide_div_mod_eq]
      have := beq_one (s / 2 ^ i % 2)
      rw [this]
      exact Ev.now _
    · simp only [if_pos (show a ≥ 0 from h0), if_neg h1, decide_eq_true h0, decide_eq_false h1, Bool.true_and, Bool.false_and]
      exact Ev.now _
  · simp only [if_neg (show ¬ a ≥ 0 from h0), decide_eq_false h0, Bool.false_and]
    exact Ev.now _
def ofV : List Int → Nat → Int × Int
  | [], m => ((m : Int), 0)
  | x :: l, m => if x < 0 then (0, 10) else if x ≥ 64 then (0, 10) else ofV l (m ||| 2 ^ x.toNat)
theorem of_l0 (L : List Int) (hL : L.length < 9223372036854775807) : ∀ (r i m : Nat), i + r = L.length → m < 18446744073709551616 → Ev (fun k => bits_Of.l0 k (m : Int) L (L.length : Int) (i : Int)) (ofV (L.drop i) m)
  | 0, i, m, h, hm => by
    refine Ev.step (fun k => bits_Of.l0.eq_2 ..) ?_
    rw [List.drop_eq_nil_of_le (by omega)]
    simp only [if_neg (show ¬ (i : Int) < (L.length : Int) by omega)]
    exact Ev.now _
  | r + 1, i, m, h, hm => by
    refine Ev.step (fun k => bits_Of.l0.eq_2 ..) ?_
    have hi : i < L.length := by omega
    rw [rd_cons L i hi]
    generalize rd L (i : Int) = x
    simp only [if_pos (show (i : Int) < (L.length : Int) by omega), if_pos (show (0 : Int) ≤ (i : Int) by omega), ofV]
    by_cases h0 : x < 0
    · simp only [if_pos h0]; exact Ev.now _
    · by_cases h1 : x ≥ 64
      · simp only [if_neg h0, if_pos h1]; exact Ev.now _
      · obtain ⟨j, rfl⟩ := Int.eq_ofNat_of_zero_le (show 0 ≤ x by omega)
        have hj : j < 64 := by omega
        have e1 : shl .u64 1 (j : Int) = ((2 ^ j : Nat) : Int) := by
          have := shl_nat 1 j (by omega)
          rw [Nat.one_mul, Nat.mod_eq_of_lt (pow_lt j hj)] at this
          exact this
        simp only [if_neg h0, if_neg h1, wrapu j (by omega), if_pos (show (0 : Int) ≤ (j : Int) by omega), e1, u64_or_nat m (2 ^ j) hm (pow_lt j hj), Int.toNat_natCast, wrap_succ i (by omega)]
        exact of_l0 L hL r (i + 1) (m ||| 2 ^ j) (by omega) (or_lt m j hm hj)
theorem of_ev (L : List Int) (hL : L.length < 9223372036854775807) : Ev (fun k => bits_Of.f k L) (ofV L 0) := of_l0 L hL L.length 0 0 (by omega) (by decide)
theorem refList_l0 (s : Nat) (hs : s < 18446744073709551616) : ∀ (r i : Nat) (acc : List Int), i + r = 64 → acc.length ≤ i →
    Ev (fun k => stackyardref01_List.l0 k (s : Int) acc (i : Int)) (acc ++ ((List.range' i r).filter fun j => s.testBit j).map fun (j : Nat) => (j : Int))
  | 0, i, acc, h, ha => by
    refine Ev.step (fun k => stackyardref01_List.l0.eq_2 ..) ?_
    simp only [if_neg (show ¬ (i : Int) < 64 by omega), List.range'_zero, List.filter_nil, List.map_nil, List.append_nil]
    exact Ev.now _
  | r + 1, i, acc, h, ha => by
    refine Ev.step (fun k => stackyardref01_List.l0.eq_2 ..) ?_
    simp only [if_pos (show (i : Int) < 64 by omega), wrap_succ i (by omega), List.range'_succ]
    refine Ev.bind (has_ev s hs (i : Int)) ?_
    rw [hasB_nat s i (by omega)]
    by_cases hb : s.testBit i = true
    · simp only [if_pos hb, if_pos (show acc.length < 17592186044416 by omega), List.filter_cons_of_pos (p := fun j => s.testBit j) (a := i) hb, List.map_cons]
      have := refList_l0 s hs r (i + 1) (acc ++ [(i : Int)]) (by omega) (by simp; omega)
      rw [List.append_assoc, List.singleton_append] at this
      exact this
    · simp only [if_neg hb, List.filter_cons_of_neg (p := fun j => s.testBit j) (a := i) hb]
      exact refList_l0 s hs r (i + 1) acc (by omega) (by omega)
theorem refList_ev (s : Nat) (hs : s < 18446744073709551616) : Ev (fun k => stackyardref01_List.f k (s : Int)) (bl s) := by
  have := refList_l0 s hs 64 0 [] (by omega) (by simp)
  unfold bl
  rw [List.range_eq_range']
  exact this
end Go.Proofs.YtpaikjnmopkekaaDoor.BitA
