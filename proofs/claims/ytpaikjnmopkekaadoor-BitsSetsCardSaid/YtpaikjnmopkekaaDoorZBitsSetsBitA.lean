/- BitA, for the statement BitsSets: what it needs, no more. -/
import Derived.Test.YtpaikjnmopkekaaDoorZBitsSetsPx0
import Derived.Test.YtpaikjnmopkekaaDoorZBitsSetsPx1
import Derived.Test.YtpaikjnmopkekaaDoorZBitsSetsPx2
import Derived.Test.YtpaikjnmopkekaaDoorZBitsSetsPlain
import Derived.Test.YtpaikjnmopkekaaDoorIterBits
import Derived.Laws.BitsAllLaws
namespace Go.Proofs.YtpaikjnmopkekaaDoor.Iter
end Go.Proofs.YtpaikjnmopkekaaDoor.Iter
namespace Go.Proofs.YtpaikjnmopkekaaDoor.P
end Go.Proofs.YtpaikjnmopkekaaDoor.P
namespace Go.Proofs.YtpaikjnmopkekaaDoor.Plain
end Go.Proofs.YtpaikjnmopkekaaDoor.Plain
namespace Go.Proofs.YtpaikjnmopkekaaDoor.BitA
open Go.RowKit Go.Proofs.YtpaikjnmopkekaaDoor.P Go.Proofs.YtpaikjnmopkekaaDoor.Plain Go.Proofs.YtpaikjnmopkekaaDoor.Iter Go.Proofs.YtpaikjnmopkekaaDoorW.PrintWords Go.Proofs.YtpaikjnmopkekaaDoorW.PrintLast Go.Proofs.YtpaikjnmopkekaaDoorW.PrintMore
set_option linter.unusedVariables false
set_option linter.unusedSimpArgs false
theorem wrapu (i : Nat) (h : i < 18446744073709551616) : IntKind.u64.wrap (i : Int) = (i : Int) := by rw [IntKind.wrap_u64]; omega
theorem shl_nat (m i : Nat) (hi : i ≤ 64) : shl .u64 (m : Int) (i : Int) = ((m * 2 ^ i % 18446744073709551616 : Nat) : Int) := by
  unfold shl
  have : min ((i : Int).toNat) IntKind.u64.bits = i := by rw [Int.toNat_natCast]; exact Nat.min_eq_left hi
  rw [this, IntKind.wrap_u64, Int.natCast_emod, Int.natCast_mul, Int.natCast_pow]; rfl
theorem shr_nat (m i : Nat) (hi : i ≤ 64) : shr .u64 (m : Int) (i : Int) = ((m / 2 ^ i : Nat) : Int) := by
  unfold shr
  have : min ((i : Int).toNat) IntKind.u64.bits = i := by rw [Int.toNat_natCast]; exact Nat.min_eq_left hi
  rw [this, Int.natCast_ediv, Int.natCast_pow]; rfl
theorem pow_lt (i : Nat) (h : i < 64) : 2 ^ i < 18446744073709551616 := Nat.pow_lt_pow_right (by decide) h
theorem or_clear (m i : Nat) (h : m.testBit i = false) : m ||| 2 ^ i = m + 2 ^ i := by
  have hp : 0 < 2 ^ i := Nat.two_pow_pos i
  have hb : m / 2 ^ i % 2 = 0 := by
    rw [Nat.testBit_eq_decide_div_mod_eq] at h
    have := of_decide_eq_false h
    omega
  obtain ⟨q, hq⟩ : ∃ q, m / 2 ^ i = 2 * q := ⟨m / 2 ^ i / 2, by omega⟩
  have hm : m = 2 ^ i * (2 * q) + m % 2 ^ i := by rw [← hq]; exact (Nat.div_add_mod m (2 ^ i)).symm
  have hr : m % 2 ^ i < 2 ^ i := Nat.mod_lt _ hp
  generalize m % 2 ^ i = r at hm hr
  subst hm
  have e1 := Nat.two_pow_add_eq_or_of_lt (i := i) hr (2 * q)
  have e2 := Nat.two_pow_add_eq_or_of_lt (i := i) hr (2 * q + 1)
  have e3 : 2 ^ i * (2 * q + 1) = 2 ^ i * (2 * q) ||| 2 ^ i := by
    have h2 : 2 ^ i < 2 ^ (i + 1) := Nat.pow_lt_pow_right (by decide) (by omega)
    have := Nat.two_pow_add_eq_or_of_lt (i := i + 1) h2 q
    rw [show 2 ^ (i + 1) * q = 2 ^ i * (2 * q) by rw [Nat.pow_succ, Nat.mul_assoc]] at this
    rw [← this, Nat.mul_add, Nat.mul_one]
  rw [e1, Nat.or_assoc, Nat.or_comm r, ← Nat.or_assoc, ← e3, ← e2, Nat.mul_add, Nat.mul_one, ← e1]
  omega
theorem or_set (m i : Nat) (h : m.testBit i = true) : m ||| 2 ^ i = m := by
  refine Nat.eq_of_testBit_eq fun j => ?_
  rw [Nat.testBit_or, Nat.testBit_two_pow]
  by_cases e : i = j
  · subst e; simp [h]
  · simp [e]
theorem or_lt (m i : Nat) (hm : m < 18446744073709551616) (h : i < 64) : m ||| 2 ^ i < 18446744073709551616 := Nat.or_lt_two_pow (n := 64) hm (pow_lt i h)

theorem worth_l0 : ∀ (i x : Nat), i < 64 → x * 2 ^ i < 18446744073709551616 → Ev (fun k => stackyardref01_Worth.l0 k (i : Int) (x : Int)) ((x * 2 ^ i : Nat) : Int)
  | 0, x, _, h => by
    refine Ev.step (fun k => stackyardref01_Worth.l0.eq_2 ..) ?_
    simp only [if_neg (show ¬ ((0 : Nat) : Int) > 0 by omega), Nat.pow_zero, Nat.mul_one]
    exact Ev.now _
  | i + 1, x, hi, h => by
    refine Ev.step (fun k => stackyardref01_Worth.l0.eq_2 ..) ?_
    have e1 : wrap64 (((i + 1 : Nat) : Int) - 1) = (i : Int) := by unfold wrap64; omega
    have hx : x * 2 < 18446744073709551616 := by
      refine Nat.lt_of_le_of_lt ?_ h
      rw [Nat.pow_succ, Nat.mul_comm (2 ^ i), ← Nat.mul_assoc]
      exact Nat.le_mul_of_pos_right _ (Nat.two_pow_pos i)
    have e2 : IntKind.u64.wrap ((x : Int) * 2) = ((x * 2 : Nat) : Int) := by rw [IntKind.wrap_u64]; omega
    simp only [if_pos (show ((i + 1 : Nat) : Int) > 0 by omega), e1, e2]
    have := worth_l0 i (x * 2) (by omega) (by rw [Nat.mul_assoc, ← Nat.pow_succ']; exact h)
    rw [Nat.mul_assoc, ← Nat.pow_succ'] at this
    exact this
theorem worth_ev (i : Nat) (hi : i < 64) : Ev (fun k => stackyardref01_Worth.f k (i : Int)) ((2 ^ i : Nat) : Int) := by
  have := worth_l0 i 1 hi (by rw [Nat.one_mul]; exact pow_lt i hi)
  rw [Nat.one_mul] at this
  exact this
def hasB (s : Nat) (a : Int) : Bool := decide (0 ≤ a) && (decide (a < 64) && s.testBit a.toNat)
theorem hasB_nat (s i : Nat) (hi : i < 64) : hasB s (i : Int) = s.testBit i := by
  unfold hasB; rw [decide_eq_true (by omega), decide_eq_true (by omega)]; simp
theorem tdivmod (s p : Nat) (hs : s < 18446744073709551616) : Int.tmod (IntKind.u64.wrap (Int.tdiv (s : Int) (p : Int))) 2 = ((s / p % 2 : Nat) : Int) := by
  rw [Int.tdiv_eq_ediv_of_nonneg (by omega), ← Int.natCast_ediv, wrapu _ (Nat.lt_of_le_of_lt (Nat.div_le_self ..) hs)]
  generalize s / p = q
  rw [Int.tmod_eq_emod_of_nonneg (by omega)]; omega
theorem beq_one (n : Nat) : (((n : Nat) : Int) == 1) = decide (n = 1) := by
  rw [Bool.eq_iff_iff]; simp; omega
theorem has_ev (s : Nat) (hs : s < 18446744073709551616) (a : Int) : Ev (fun k => stackyardref01_Has.f k (s : Int) a) (hasB s a) := by
  unfold stackyardref01_Has.f hasB
  by_cases h0 : 0 ≤ a
  · by_cases h1 : a < 64
    · obtain ⟨i, rfl⟩ := Int.eq_ofNat_of_zero_le h0
      simp only [if_pos (show ((i : Int)) ≥ 0 from h0), if_pos h1, decide_eq_true h0, decide_eq_true h1, Bool.true_and]
      refine Ev.bind (worth_ev i (by omega)) ?_
      have hp : 0 < 2 ^ i := Nat.two_pow_pos i
      rw [if_neg (by omega)]
      have e := tdivmod s (2 ^ i) hs
      rw [e, Int.toNat_natCast, Nat.testBit_eq_decide_div_mod_eq]
      have := beq_one (s / 2 ^ i % 2)
      rw [this]
      exact Ev.now _
    · simp only [if_pos (show a ≥ 0 from h0), if_neg h1, decide_eq_true h0, decide_eq_false h1, Bool.true_and, Bool.false_and]
      exact Ev.now _
  · simp only [if_neg (show ¬ a ≥ 0 from h0), decide_eq_false h0, Bool.false_and]
    exact Ev.now _
def fullV (a : Int) : Int × Int := if a < 0 then (0, 10) else if a > 64 then (0, 10) else (((2 ^ a.toNat - 1 : Nat) : Int), 0)
theorem full_eq (a : Int) : bits_Full.f a = some (fullV a) := by
  unfold bits_Full.f fullV
  by_cases h0 : a < 0
  · rw [if_pos h0, if_pos h0]
  · by_cases h1 : a > 64
    · rw [if_neg h0, if_neg h0, if_pos h1, if_pos h1]
    · obtain ⟨n, rfl⟩ := Int.eq_ofNat_of_zero_le (show 0 ≤ a by omega)
      have e1 : wrap64 (64 - (n : Int)) = ((64 - n : Nat) : Int) := by unfold wrap64; omega
      rw [if_neg h0, if_neg h0, if_neg h1, if_neg h1, e1, wrapu _ (by omega), if_pos (by omega)]
      have := shr_nat 18446744073709551615 (64 - n) (by omega)
      rw [show ((18446744073709551615 : Nat) : Int) = 18446744073709551615 from rfl] at this
      rw [this, Int.toNat_natCast]
      have e2 : 18446744073709551615 / 2 ^ (64 - n) = 2 ^ n - 1 := by
        have : 18446744073709551615 = (2 ^ n - 1) * 2 ^ (64 - n) + (2 ^ (64 - n) - 1) := by
          have h64 : 2 ^ n * 2 ^ (64 - n) = 18446744073709551616 := by rw [← Nat.pow_add, show n + (64 - n) = 64 by omega]
          have hp : 0 < 2 ^ (64 - n) := Nat.two_pow_pos _
          have hq : 0 < 2 ^ n := Nat.two_pow_pos _
          rw [Nat.sub_mul, h64, Nat.one_mul]
          have : 2 ^ (64 - n) ≤ 2 ^ n * 2 ^ (64 - n) := Nat.le_mul_of_pos_left _ hq
          omega
        rw [this, Nat.mul_comm, Nat.mul_add_div (Nat.two_pow_pos _), Nat.div_eq_of_lt (by have := Nat.two_pow_pos (64 - n); omega), Nat.add_zero]
      rw [e2]
theorem refFull_l0 (n : Nat) (hn : n ≤ 64) : ∀ (r i : Nat), i + r = n → Ev (fun k => stackyardref01_Full.l0 k (n : Int) ((2 ^ i - 1 : Nat) : Int) (i : Int)) (((2 ^ n - 1 : Nat) : Int), 0)
  | 0, i, h => by
    refine Ev.step (fun k => stackyardref01_Full.l0.eq_2 ..) ?_
    obtain rfl : i = n := by omega
    simp only [if_neg (show ¬ (i : Int) < (i : Int) by omega)]
    exact Ev.now _
  | r + 1, i, h => by
    refine Ev.step (fun k => stackyardref01_Full.l0.eq_2 ..) ?_
    simp only [if_pos (show (i : Int) < (n : Int) by omega), wrap_succ i (by omega)]
    refine Ev.bind (worth_ev i (by omega)) ?_
    have hp : 0 < 2 ^ i := Nat.two_pow_pos i
    have hlt : 2 ^ (i + 1) ≤ 18446744073709551616 := Nat.pow_le_pow_right (n := 2) (by decide) (show i + 1 ≤ 64 by omega)
    have e : IntKind.u64.wrap (((2 ^ i - 1 : Nat) : Int) + ((2 ^ i : Nat) : Int)) = ((2 ^ (i + 1) - 1 : Nat) : Int) := by
      rw [← Int.natCast_add, show 2 ^ i - 1 + 2 ^ i = 2 ^ (i + 1) - 1 by rw [Nat.pow_succ]; omega, wrapu _ (by omega)]
    rw [e]
    exact refFull_l0 n hn r (i + 1) (by omega)
theorem refFull_ev (a : Int) : Ev (fun k => stackyardref01_Full.f k a) (fullV a) := by
  unfold stackyardref01_Full.f fullV
  by_cases h0 : a < 0
  · simp only [if_pos h0]
    refine Ev.step (fun k => stackyardref01_Full.j0.eq_2 ..) ?_
    simp only [if_true]; exact Ev.now _
  · simp only [if_neg h0]
    refine Ev.step (fun k => stackyardref01_Full.j0.eq_2 ..) ?_
    by_cases h1 : a > 64
    · simp only [if_pos h1, decide_eq_true h1, if_true]; exact Ev.now _
    · obtain ⟨n, rfl⟩ := Int.eq_ofNat_of_zero_le (show 0 ≤ a by omega)
      simp only [if_neg h1, decide_eq_false h1, Bool.false_eq_true, if_false, Int.toNat_natCast]
      exact refFull_l0 n (by omega) n 0 (by omega)

def ofV : List Int → Nat → Int × Int
  | [], m => ((m : Int), 0)
  | x :: l, m => if x < 0 then (0, 10) else if x ≥ 64 then (0, 10) else ofV l (m ||| 2 ^ x.toNat)
theorem of_l0 (L : List Int) (hL : L.length < 9223372036854775807) : ∀ (r i m : Nat), i + r = L.length → m < 18446744073709551616 → Ev (fun k => bits_Of.l0 k (m : Int) L (L.length : Int) (i : Int)) (ofV (L.drop i) m)
  | 0, i, m, h, hm => by
    refine Ev.step (fun k => bits_Of.l0.eq_2 ..) ?_
    rw [List.drop_eq_nil_of_le (by omega)]
    simp only [if_neg (show ¬ (i : Int) < (L.length : Int) by omega)]
    exact Ev.now _
  | r + 1, i, m, h, hm => by
    refine Ev.step (fun k => bits_Of.l0.eq_2 ..) ?_
    have hi : i < L.length := by omega
    rw [rd_cons L i hi]
    generalize rd L (i : Int) = x
    simp only [if_pos (show (i : Int) < (L.length : Int) by omega), if_pos (show (0 : Int) ≤ (i : Int) by omega), ofV]
    by_cases h0 : x < 0
    · simp only [if_pos h0]; exact Ev.now _
    · by_cases h1 : x ≥ 64
      · simp only [if_neg h0, if_pos h1]; exact Ev.now _
      · obtain ⟨j, rfl⟩ := Int.eq_ofNat_of_zero_le (show 0 ≤ x by omega)
        have hj : j < 64 := by omega
        have e1 : shl .u64 1 (j : Int) = ((2 ^ j : Nat) : Int) := by
          have := shl_nat 1 j (by omega)
          rw [Nat.one_mul, Nat.mod_eq_of_lt (pow_lt j hj)] at this
          exact this
        simp only [if_neg h0, if_neg h1, wrapu j (by omega), if_pos (show (0 : Int) ≤ (j : Int) by omega), e1, u64_or_nat m (2 ^ j) hm (pow_lt j hj), Int.toNat_natCast, wrap_succ i (by omega)]
        exact of_l0 L hL r (i + 1) (m ||| 2 ^ j) (by omega) (or_lt m j hm hj)
theorem of_ev (L : List Int) (hL : L.length < 9223372036854775807) : Ev (fun k => bits_Of.f k L) (ofV L 0) := of_l0 L hL L.length 0 0 (by omega) (by decide)
theorem refOf_l0 (L : List Int) (hL : L.length < 9223372036854775807) : ∀ (r i m : Nat), i + r = L.length → m < 18446744073709551616 → Ev (fun k => stackyardref01_Of.l0 k L (m : Int) (i : Int)) (ofV (L.drop i) m)
  | 0, i, m, h, hm => by
    refine Ev.step (fun k => stackyardref01_Of.l0.eq_2 ..) ?_
    rw [List.drop_eq_nil_of_le (by omega)]
    simp only [if_neg (show ¬ (i : Int) < (L.length : Int) by omega)]
    exact Ev.now _
  | r + 1, i, m, h, hm => by
    refine Ev.step (fun k => stackyardref01_Of.l0.eq_2 ..) ?_
    have hi : i < L.length := by omega
    have hx := rd_cons L i hi
    have a1 : (i : Int) < (L.length : Int) := by omega
    have a2 : (0 : Int) ≤ (i : Int) := by omega
    rw [hx]
    generalize hxe : rd L (i : Int) = x
    simp only [if_pos a1, if_pos a2, ofV]
    by_cases h0 : x < 0
    · simp only [if_pos h0]
      refine Ev.step (fun k => stackyardref01_Of.j1.eq_2 ..) ?_
      simp only [if_true]; exact Ev.now _
    · simp only [if_neg h0]
      refine Ev.step (fun k => stackyardref01_Of.j1.eq_2 ..) ?_
      by_cases h1 : x ≥ 64
      · simp only [if_pos h1, decide_eq_true h1, if_true]; exact Ev.now _
      · obtain ⟨j, rfl⟩ := Int.eq_ofNat_of_zero_le (show 0 ≤ x by omega)
        have hj : j < 64 := by omega
        simp only [if_neg h1, decide_eq_false h1, Bool.false_eq_true, if_false, if_pos a1, if_pos a2, hxe]
        refine Ev.bind (has_ev m hm (j : Int)) ?_
        rw [hasB_nat m j hj]
        simp only [Int.toNat_natCast, wrap_succ i (by omega)]
        by_cases hb : m.testBit j = true
        · simp only [if_pos hb, or_set m j hb]
          exact refOf_l0 L hL r (i + 1) m (by omega) hm
        · simp only [if_neg hb]
          have hb' : m.testBit j = false := by simpa using hb
          refine Ev.bind (worth_ev j hj) ?_
          have e : IntKind.u64.wrap ((m : Int) + ((2 ^ j : Nat) : Int)) = ((m ||| 2 ^ j : Nat) : Int) := by
            have := or_lt m j hm hj
            rw [← Int.natCast_add, ← or_clear m j hb', wrapu _ this]
          rw [e]
          exact refOf_l0 L hL r (i + 1) (m ||| 2 ^ j) (by omega) (or_lt m j hm hj)
theorem refOf_ev (L : List Int) (hL : L.length < 9223372036854775807) : Ev (fun k => stackyardref01_Of.f k L) (ofV L 0) := refOf_l0 L hL L.length 0 0 (by omega) (by decide)

theorem same_l0 (L : List Int) (hL : L.length < 9223372036854775807) : ∀ (r i : Nat), i + r = L.length → Ev (fun k => stackyardlaw01_same.l0 k L L (i : Int)) true
  | 0, i, h => by
    refine Ev.step (fun k => stackyardlaw01_same.l0.eq_2 ..) ?_
    simp only [if_neg (show ¬ (i : Int) < (L.length : Int) by omega)]
    exact Ev.now _
  | r + 1, i, h => by
    refine Ev.step (fun k => stackyardlaw01_same.l0.eq_2 ..) ?_
    simp only [if_pos (show (i : Int) < (L.length : Int) by omega), if_pos (show (0 : Int) ≤ (i : Int) by omega), if_true, wrap_succ i (by omega)]
    exact same_l0 L hL r (i + 1) (by omega)
theorem same_ev (L : List Int) (hL : L.length < 9223372036854775807) : Ev (fun k => stackyardlaw01_same.f k L L) true := by
  unfold stackyardlaw01_same.f
  simp only [if_true]
  exact same_l0 L hL L.length 0 (by omega)
theorem refList_l0 (s : Nat) (hs : s < 18446744073709551616) : ∀ (r i : Nat) (acc : List Int), i + r = 64 → acc.length ≤ i →
    Ev (fun k => stackyardref01_List.l0 k (s : Int) acc (i : Int)) (acc ++ ((List.range' i r).filter fun j => s.testBit j).map fun (j : Nat) => (j : Int))
  | 0, i, acc, h, ha => by
    refine Ev.step (fun k => stackyardref01_List.l0.eq_2 ..) ?_
    simp only [if_neg (show ¬ (i : Int) < 64 by omega), List.range'_zero, List.filter_nil, List.map_nil, List.append_nil]
    exact Ev.now _
  | r + 1, i, acc, h, ha => by
    refine Ev.step (fun k => stackyardref01_List.l0.eq_2 ..) ?_
    simp only [if_pos (show (i : Int) < 64 by omega), wrap_succ i (by omega), List.range'_succ]
    refine Ev.bind (has_ev s hs (i : Int)) ?_
    rw [hasB_nat s i (by omega)]
    by_cases hb : s.testBit i = true
    · simp only [if_pos hb, if_pos (show acc.length < 17592186044416 by omega), List.filter_cons_of_pos (p := fun j => s.testBit j) (a := i) hb, List.map_cons]
      have := refList_l0 s hs r (i + 1) (acc ++ [(i : Int)]) (by omega) (by simp; omega)
      rw [List.append_assoc, List.singleton_append] at this
      exact this
    · simp only [if_neg hb, List.filter_cons_of_neg (p := fun j => s.testBit j) (a := i) hb]
      exact refList_l0 s hs r (i + 1) acc (by omega) (by omega)
theorem refList_ev (s : Nat) (hs : s < 18446744073709551616) : Ev (fun k => stackyardref01_List.f k (s : Int)) (bl s) := by
  have := refList_l0 s hs 64 0 [] (by omega) (by simp)
  unfold bl
  rw [List.range_eq_range']
  exact this
theorem list_eq (s : Nat) (hs : s < 18446744073709551616) : bits_List.f (s : Int) = some (bl s) := by
  unfold bits_List.f
  rw [if_pos (by omega), Int.toNat_natCast]
end Go.Proofs.YtpaikjnmopkekaaDoor.BitA
