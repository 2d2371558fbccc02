/- CellB, for the statement CellsOwn: what it needs, no more. -/
import Derived.Test.YtkfpgniicfanoaaDoorZCellsOwnPx0
import Derived.Test.YtkfpgniicfanoaaDoorZCellsOwnPx1
import Derived.Test.YtkfpgniicfanoaaDoorZCellsOwnPx2
import Derived.Test.YtkfpgniicfanoaaDoorZCellsOwnPx3
import Derived.Test.YtkfpgniicfanoaaDoorZCellsOwnPx4
import Derived.Test.YtkfpgniicfanoaaDoorZCellsOwnPx5
import Derived.Test.YtkfpgniicfanoaaDoorZCellsOwnPx6
import Derived.Test.YtkfpgniicfanoaaDoorZCellsOwnPx7
import Derived.Test.YtkfpgniicfanoaaDoorZCellsOwnPx8
import Derived.Test.YtkfpgniicfanoaaDoorZCellsOwnPx9
import Derived.Test.YtkfpgniicfanoaaDoorZCellsOwnPx10
import Derived.Test.YtkfpgniicfanoaaDoorZCellsOwnPx11
import Derived.Test.YtkfpgniicfanoaaDoorZCellsOwnCellA
import Derived.Laws.BitsAllLaws
namespace Go.Proofs.YtkfpgniicfanoaaDoor.CellA
end Go.Proofs.YtkfpgniicfanoaaDoor.CellA
namespace Go.Proofs.YtkfpgniicfanoaaDoor.P
end Go.Proofs.YtkfpgniicfanoaaDoor.P
namespace Go.Proofs.YtkfpgniicfanoaaDoor.Plain
end Go.Proofs.YtkfpgniicfanoaaDoor.Plain
deriving instance DecidableEq for Go.Proofs.YtkfpgniicfanoaaDoor.P.S34
namespace Go.Proofs.YtkfpgniicfanoaaDoor.CellB
open Go.RowKit Go.Proofs.YtkfpgniicfanoaaDoor.P Go.Proofs.YtkfpgniicfanoaaDoor.Plain Go.Proofs.YtkfpgniicfanoaaDoor.CellA Go.Proofs.YtkfpgniicfanoaaDoorW.PrintWords Go.Proofs.YtkfpgniicfanoaaDoorW.PrintLast Go.Proofs.YtkfpgniicfanoaaDoorW.PrintMore
set_option linter.unusedVariables false
set_option linter.unusedSimpArgs false
theorem bit_eq (x : Int) (h0 : 0 ≤ x) (h1 : x < 18446744073709551616) (i : Nat) (hi : i ≤ 64) : Go.bits .and .u64 (shr .u64 x (i : Int)) 1 = if x.toNat.testBit i then 1 else 0 := by
  obtain ⟨m, rfl⟩ := Int.eq_ofNat_of_zero_le h0
  have e : shr .u64 (m : Int) (i : Int) = ((m / 2 ^ i : Nat) : Int) := by
    unfold shr
    have : min ((i : Int).toNat) IntKind.u64.bits = i := by
      rw [Int.toNat_natCast]; exact Nat.min_eq_left hi
    rw [this]; simp
  rw [e]
  have := u64_and_nat (m / 2 ^ i) 1 (Nat.lt_of_le_of_lt (Nat.div_le_self ..) (by omega)) (by decide)
  have e1 : ((1 : Nat) : Int) = 1 := rfl
  rw [e1] at this
  rw [this, Nat.and_one_is_mod, Int.toNat_natCast, Nat.testBit_eq_decide_div_mod_eq]
  by_cases h : m / 2 ^ i % 2 = 1
  · simp [h]
  · have : m / 2 ^ i % 2 = 0 := by omega
    simp [this]
theorem wrapu (i : Nat) (h : i < 18446744073709551616) : IntKind.u64.wrap (i : Int) = (i : Int) := by
  rw [IntKind.wrap_u64]; omega
theorem has_eq (x : Int) (h0 : 0 ≤ x) (h1 : x < 18446744073709551616) (i : Nat) (hi : i ≤ 64) : stackyardref04_Has.f x (i : Int) = some (x.toNat.testBit i) := by
  unfold stackyardref04_Has.f
  rw [wrapu i (by omega), if_pos (by omega), bit_eq x h0 h1 i hi]
  cases x.toNat.testBit i <;> rfl
theorem high_zero (m d : Nat) (hd : d ≤ 64) (hm : m < 2 ^ 64) : (m &&& (18446744073709551615 - (2 ^ d - 1))) = 0 ↔ m < 2 ^ d := by
  have hp : 0 < 2 ^ d := Nat.two_pow_pos d
  have e : 18446744073709551615 - (2 ^ d - 1) = (2 ^ (64 - d) - 1) <<< d := by
    rw [Nat.shiftLeft_eq, Nat.sub_mul, ← Nat.pow_add, show 64 - d + d = 64 by omega]
    omega
  rw [e]
  constructor
  · intro h
    rcases Nat.lt_or_ge m (2 ^ d) with h1 | h1
    · exact h1
    · obtain ⟨i, hi, ht⟩ := Nat.exists_ge_and_testBit_of_ge_two_pow h1
      have h64 : i < 64 := by
        rcases Nat.lt_or_ge i 64 with h2 | h2
        · exact h2
        · rw [Nat.testBit_lt_two_pow (Nat.lt_of_lt_of_le hm (Nat.pow_le_pow_right (by decide) h2))] at ht
          cases ht
      have := congrArg (fun n => Nat.testBit n i) h
      simp only [Nat.testBit_and, ht, Nat.testBit_shiftLeft, Nat.testBit_two_pow_sub_one, Nat.zero_testBit, Bool.true_and, Bool.and_eq_false_iff, decide_eq_false_iff_not] at this
      omega
  · intro h
    refine Nat.eq_of_testBit_eq fun i => ?_
    rw [Nat.testBit_and, Nat.zero_testBit, Nat.testBit_shiftLeft]
    by_cases hi : i < d
    · have : decide (i ≥ d) = false := by simp; omega
      rw [this]; simp
    · rw [Nat.testBit_lt_two_pow (Nat.lt_of_lt_of_le h (Nat.pow_le_pow_right (by decide) (by omega)))]; rfl
theorem mask_eq (d : Nat) (hd : d ≤ 64) : cells_mask.f (d : Int) = some ((2 ^ d - 1 : Nat) : Int) := by
  unfold cells_mask.f
  by_cases h : (d : Int) ≥ 64
  · rw [if_pos h]
    obtain rfl : d = 64 := by omega
    rfl
  · rw [if_neg h, if_pos (by omega)]
    have e : shl .u64 1 (d : Int) = ((2 ^ d : Nat) : Int) := by
      unfold shl
      have : min ((d : Int).toNat) IntKind.u64.bits = d := by
        rw [Int.toNat_natCast]; exact Nat.min_eq_left hd
      rw [this, IntKind.wrap_u64]
      have hp : 2 ^ d < 2 ^ 64 := Nat.pow_lt_pow_right (by decide) (by omega)
      rw [Int.one_mul, show ((2 : Int) ^ d) = ((2 ^ d : Nat) : Int) by simp]
      generalize 2 ^ d = q at hp ⊢
      omega
    rw [e, IntKind.wrap_u64]
    have hp : 2 ^ d < 2 ^ 64 := Nat.pow_lt_pow_right (by decide) (by omega)
    have hq : 0 < 2 ^ d := Nat.two_pow_pos d
    congr 1
    generalize 2 ^ d = q at hp hq ⊢
    omega

/-- What every cell in memory is. -/
def fit (x : S34) : Prop := 0 ≤ x.f0 ∧ x.f0 < 18446744073709551616
def kindOk (x : S34) : Bool := x.f1 == 1 || (x.f1 == 0 && x.f2 == 0) || (x.f1 == 2 && (x.f0 == 0 && x.f2 == 0))
def right (d : Nat) (x : S34) : Bool := decide (x.f0.toNat < 2 ^ d) && kindOk x
theorem right_eq (d : Nat) (hd : d ≤ 64) (x : S34) (hx : fit x) : cells_right.f (d : Int) x.f0 x.f1 x.f2 = some (right d x) := by
  obtain ⟨x0, x1, x2⟩ := x
  obtain ⟨h0, h1⟩ := hx
  simp only at h0 h1
  unfold cells_right.f right kindOk
  rw [mask_eq d hd]
  simp only [Option.bind_some]
  obtain ⟨m, rfl⟩ := Int.eq_ofNat_of_zero_le h0
  have hp : 2 ^ d ≤ 2 ^ 64 := Nat.pow_le_pow_right (by decide) hd
  have hq : 0 < 2 ^ d := Nat.two_pow_pos d
  rw [u64_andNot_nat m (2 ^ d - 1) (by omega) (by omega)]
  have hz := high_zero m d hd (by omega)
  simp only [Int.toNat_natCast]
  by_cases h : m < 2 ^ d
  · have := hz.2 h
    rw [if_pos (by rw [this]; rfl)]
    simp only [h, decide_true, Bool.true_and]
    by_cases e1 : x1 = 1
    · subst e1; rfl
    · rw [if_neg e1]
      by_cases e0 : x1 = 0
      · subst e0; simp
      · rw [if_neg e0]
        by_cases e2 : x1 = 2
        · subst e2; simp
        · rw [if_neg e2]; simp [e0, e1, e2]
  · rw [if_neg (by intro e; exact h (hz.1 (by exact_mod_cast e)))]
    simp [h]
def nob (m : Nat) : Nat → Nat → Bool
  | 0, _ => true
  | r + 1, i => !m.testBit i && nob m r (i + 1)
theorem nob_iff (m : Nat) : ∀ r i, nob m r i = true ↔ ∀ j, i ≤ j → j < i + r → m.testBit j = false
  | 0, i => by simp [nob]; intro j h1 h2; omega
  | r + 1, i => by
    simp only [nob, Bool.and_eq_true, Bool.not_eq_true', nob_iff m r (i + 1)]
    constructor
    · intro ⟨h1, h2⟩ j hj hk
      by_cases e : j = i
      · subst e; exact h1
      · exact h2 j (by omega) (by omega)
    · intro h
      exact ⟨h i (by omega) (by omega), fun j hj hk => h j (by omega) (by omega)⟩
theorem nob_eq (m d : Nat) (hd : d ≤ 64) (hm : m < 2 ^ 64) : nob m (64 - d) d = decide (m < 2 ^ d) := by
  rw [Bool.eq_iff_iff, nob_iff, decide_eq_true_iff]
  constructor
  · intro h
    rcases Nat.lt_or_ge m (2 ^ d) with h1 | h1
    · exact h1
    · obtain ⟨i, hi, ht⟩ := Nat.exists_ge_and_testBit_of_ge_two_pow h1
      have h64 : i < 64 := by
        rcases Nat.lt_or_ge i 64 with h2 | h2
        · exact h2
        · rw [Nat.testBit_lt_two_pow (Nat.lt_of_lt_of_le hm (Nat.pow_le_pow_right (by decide) h2))] at ht
          cases ht
      rw [h i hi (by omega)] at ht; cases ht
  · intro h j hj _
    exact Nat.testBit_lt_two_pow (Nat.lt_of_lt_of_le h (Nat.pow_le_pow_right (by decide) hj))
theorem refcell_l0 (x : S34) (hx : fit x) : ∀ (r i : Nat), i + r = 64 → Ev (fun k => stackyardref04_cell.l0 k (i : Int) x.f0 x.f1 x.f2) (nob x.f0.toNat r i && kindOk x)
  | 0, i, h => by
    refine Ev.step (fun k => stackyardref04_cell.l0.eq_2 ..) ?_
    obtain rfl : i = 64 := by omega
    refine ⟨0, fun k _ => ?_⟩
    simp only [nob, Bool.true_and, kindOk]
    rw [if_neg (by decide)]
    obtain ⟨x0, x1, x2⟩ := x
    simp only
    by_cases a : x1 < 0
    · rw [if_pos a]
      have h1 : x1 ≠ 1 := by omega
      have h2 : x1 ≠ 2 := by omega
      have h3 : x1 ≠ 0 := by omega
      simp [h1, h2, h3]
    · rw [if_neg a]
      by_cases b : x1 > 2
      · rw [if_pos b]
        have h1 : x1 ≠ 1 := by omega
        have h2 : x1 ≠ 2 := by omega
        have h3 : x1 ≠ 0 := by omega
        simp [h1, h2, h3]
      · rw [if_neg b]
        obtain rfl | rfl | rfl : x1 = 0 ∨ x1 = 1 ∨ x1 = 2 := by omega
        · by_cases c : x2 = 0 <;> simp [c]
        · simp
        · by_cases c : x2 = 0 <;> simp [c]
  | r + 1, i, h => by
    refine Ev.step (fun k => stackyardref04_cell.l0.eq_2 ..) ?_
    have e : (i : Int) < 64 := by omega
    simp only [if_pos e, has_eq x.f0 hx.1 hx.2 i (by omega), Option.bind_some, wrap_succ i (by omega), nob]
    by_cases b : x.f0.toNat.testBit i = true
    · simp only [b, if_true, Bool.not_true, Bool.false_and]; exact Ev.now _
    · simp only [if_neg b, show x.f0.toNat.testBit i = false by simpa using b, Bool.not_false, Bool.true_and]
      simpa using refcell_l0 x hx r (i + 1) (by omega)
theorem refcell_ev (d : Nat) (hd : d ≤ 64) (x : S34) (hx : fit x) : Ev (fun k => stackyardref04_cell.f k (d : Int) x.f0 x.f1 x.f2) (right d x) := by
  have := refcell_l0 x hx (64 - d) d (by omega)
  rw [nob_eq _ d hd (by have := hx.1; have := hx.2; omega)] at this
  exact this
theorem rdT_drop (l : List S34) (i : Nat) (h : i < l.length) : l.drop i = rd_T34 l (i : Int) :: l.drop (i + 1) := by
  rw [List.drop_eq_getElem_cons h]
  simp [rd_T34, List.getD_eq_getElem?_getD, List.getElem?_eq_getElem h]
theorem rdT_mem (l : List S34) (i : Nat) (h : i < l.length) : rd_T34 l (i : Int) ∈ l := by
  have : rd_T34 l (i : Int) ∈ l.drop i := by rw [rdT_drop l i h]; exact List.mem_cons_self
  exact List.mem_of_mem_drop this

def chk (a : Int) (l : List S34) : Int := if a < 0 then 41 else if a > 64 then 41 else if (l.length : Int) = a then (if l.all (right a.toNat) then 0 else 40) else 40
theorem check_l0 (d : Nat) (hd : d ≤ 64) (l : List S34) (hf : ∀ x ∈ l, fit x) (hl : l.length < 9223372036854775807) : ∀ (r i : Nat), i + r = l.length → Ev (fun k => cells_Check.l0 k (d : Int) l (l.length : Int) (i : Int)) (if (l.drop i).all (right d) then 0 else 40)
  | 0, i, h => by
    refine Ev.step (fun k => cells_Check.l0.eq_2 ..) ?_
    rw [List.drop_eq_nil_of_le (by omega)]
    have e : ¬ (i : Int) < (l.length : Int) := by omega
    simp only [if_neg e]
    exact Ev.now _
  | r + 1, i, h => by
    refine Ev.step (fun k => cells_Check.l0.eq_2 ..) ?_
    have hi : i < l.length := by omega
    have e : (i : Int) < (l.length : Int) := by omega
    have e0 : (0 : Int) ≤ (i : Int) := by omega
    simp only [if_pos e, if_pos e0, right_eq d hd _ (hf _ (rdT_mem l i hi)), Option.bind_some, wrap_succ i (by omega)]
    rw [rdT_drop l i hi]
    simp only [List.all_cons]
    by_cases b : right d (rd_T34 l i) = true
    · simp only [b, if_true, Bool.true_and]
      exact check_l0 d hd l hf hl r (i + 1) (by omega)
    · simp only [if_neg b, show right d (rd_T34 l i) = false by simpa using b, Bool.false_and, Bool.false_eq_true, if_false]
      exact Ev.now _
theorem check_ev (a : Int) (l : List S34) (hf : ∀ x ∈ l, fit x) (hl : l.length < 9223372036854775807) : Ev (fun k => cells_Check.f k a l) (chk a l) := by
  refine Ev.bind (a := if a < 0 then 41 else if a > 64 then 41 else 0) ⟨0, fun k _ => by simp only [cells_dims.f]; (repeat' split) <;> rfl⟩ ?_
  unfold chk
  by_cases h1 : a < 0
  · simp only [if_pos h1, show ¬ (41 : Int) = 0 by decide, if_false]; exact Ev.now _
  · by_cases h2 : a > 64
    · simp only [if_neg h1, if_pos h2, show ¬ (41 : Int) = 0 by decide, if_false]; exact Ev.now _
    · simp only [if_neg h1, if_neg h2, if_true]
      by_cases h3 : (l.length : Int) = a
      · simp only [if_pos h3]
        obtain ⟨d, rfl⟩ := Int.eq_ofNat_of_zero_le (show 0 ≤ a by omega)
        have := check_l0 d (by omega) l hf hl l.length 0 (by omega)
        simpa using this
      · simp only [if_neg h3]; exact Ev.now _
theorem refCheck_l0 (d : Nat) (hd : d ≤ 64) (l : List S34) (hf : ∀ x ∈ l, fit x) (hl : l.length = d) : ∀ (r i : Nat), i + r = l.length → Ev (fun k => stackyardref04_Check.l0 k (d : Int) l (i : Int)) (if (l.drop i).all (right d) then 0 else 40)
  | 0, i, h => by
    refine Ev.step (fun k => stackyardref04_Check.l0.eq_2 ..) ?_
    rw [List.drop_eq_nil_of_le (by omega)]
    have e : ¬ (i : Int) < (d : Int) := by omega
    simp only [if_neg e]
    exact Ev.now _
  | r + 1, i, h => by
    refine Ev.step (fun k => stackyardref04_Check.l0.eq_2 ..) ?_
    have hi : i < l.length := by omega
    have e : (i : Int) < (d : Int) := by omega
    have e1 : (i : Int) < (l.length : Int) := by omega
    have e0 : (0 : Int) ≤ (i : Int) := by omega
    simp only [if_pos e, if_pos e0, if_pos e1, wrap_succ i (by omega)]
    refine Ev.bind (refcell_ev d hd _ (hf _ (rdT_mem l i hi))) ?_
    rw [rdT_drop l i hi]
    simp only [List.all_cons]
    by_cases b : right d (rd_T34 l i) = true
    · simp only [b, if_true, Bool.true_and]
      exact refCheck_l0 d hd l hf hl r (i + 1) (by omega)
    · simp only [if_neg b, show right d (rd_T34 l i) = false by simpa using b, Bool.false_and, Bool.false_eq_true, if_false]
      exact Ev.now _
theorem refCheck_ev (a : Int) (l : List S34) (hf : ∀ x ∈ l, fit x) : Ev (fun k => stackyardref04_Check.f k a l) (chk a l) := by
  refine Ev.bind (a := if a < 0 then 41 else if a > 64 then 41 else 0) ⟨0, fun k _ => by simp only [stackyardref04_Dim.f]; (repeat' split) <;> rfl⟩ ?_
  unfold chk
  by_cases h1 : a < 0
  · simp only [if_pos h1, show ¬ (41 : Int) = 0 by decide, if_false]; exact Ev.now _
  · by_cases h2 : a > 64
    · simp only [if_neg h1, if_pos h2, show ¬ (41 : Int) = 0 by decide, if_false]; exact Ev.now _
    · simp only [if_neg h1, if_neg h2, if_true]
      by_cases h3 : (l.length : Int) = a
      · simp only [if_pos h3]
        obtain ⟨d, rfl⟩ := Int.eq_ofNat_of_zero_le (show 0 ≤ a by omega)
        have := refCheck_l0 d (by omega) l hf (by omega) l.length 0 (by omega)
        simpa using this
      · simp only [if_neg h3]; exact Ev.now _
def chk2 (a : Int) (l m : List S34) : Int := if chk a l = 0 then chk a m else chk a l
theorem two_ev (a : Int) (l m : List S34) (hf : ∀ x ∈ l, fit x) (hl : l.length < 9223372036854775807) (hg : ∀ x ∈ m, fit x) (hm : m.length < 9223372036854775807) : Ev (fun k => cells_two.f k a l m) (chk2 a l m) := by
  refine Ev.bind (check_ev a l hf hl) ?_
  unfold chk2
  by_cases h : chk a l = 0
  · simp only [h, if_true]
    exact Ev.bind (check_ev a m hg hm) (Ev.now _)
  · simp only [if_neg h]; exact Ev.now _
theorem checks_ev (a : Int) (l m : List S34) (hf : ∀ x ∈ l, fit x) (hg : ∀ x ∈ m, fit x) : Ev (fun k => stackyardref04_checks.f k a l m) (chk2 a l m) := by
  refine Ev.bind (refCheck_ev a l hf) ?_
  unfold chk2
  by_cases h : chk a l = 0
  · simp only [h, if_true]
    exact Ev.bind (refCheck_ev a m hg) (Ev.now _)
  · simp only [if_neg h]; exact Ev.now _

def dec : Cl → S34
  | .top => ⟨0, 2, 0⟩
  | .low m none => ⟨(m : Int), 0, 0⟩
  | .low m (some v) => ⟨(m : Int), 1, v⟩
theorem dec_fit {d : Nat} (hd : d ≤ 64) {c : Cl} (hc : lt d c) : fit (dec c) := by
  rcases c with _ | ⟨m, _ | a⟩ <;> simp only [dec, fit]
  · omega
  all_goals
    have : 2 ^ d ≤ 2 ^ 64 := Nat.pow_le_pow_right (by decide) hd
    simp only [lt] at hc
    omega
theorem dec_right {d : Nat} {c : Cl} (hc : lt d c) : right d (dec c) = true := by
  rcases c with _ | ⟨m, _ | a⟩ <;> simp [dec, right, kindOk, Nat.two_pow_pos]
  · exact decide_eq_true hc
  · exact decide_eq_true hc
theorem right_dec {d : Nat} {x : S34} (hx : fit x) (h : right d x = true) : ∃ c, lt d c ∧ x = dec c := by
  obtain ⟨x0, x1, x2⟩ := x
  simp only [right, kindOk, Bool.and_eq_true, Bool.or_eq_true, decide_eq_true_eq, beq_iff_eq] at h
  obtain ⟨h1, h2⟩ := h
  have h0 := hx.1
  simp only at h0
  obtain ⟨m, rfl⟩ := Int.eq_ofNat_of_zero_le h0
  rcases h2 with (rfl | ⟨rfl, rfl⟩) | ⟨rfl, h3, rfl⟩
  · exact ⟨.low m (some x2), h1, rfl⟩
  · exact ⟨.low m none, h1, rfl⟩
  · exact ⟨.top, trivial, by simp only [dec, h3]⟩
theorem rights_dec {d : Nat} : ∀ {l : List S34}, (∀ x ∈ l, fit x) → l.all (right d) = true → ∃ L : List Cl, l = L.map dec ∧ ∀ c ∈ L, lt d c
  | [], _, _ => ⟨[], rfl, by simp⟩
  | x :: l, hf, h => by
    simp only [List.all_cons, Bool.and_eq_true] at h
    obtain ⟨c, hc, rfl⟩ := right_dec (hf x List.mem_cons_self) h.1
    obtain ⟨L, rfl, hL⟩ := rights_dec (fun y hy => hf y (List.mem_cons_of_mem _ hy)) h.2
    exact ⟨c :: L, rfl, fun y hy => (List.mem_cons.1 hy).elim (fun e => e ▸ hc) (hL y)⟩
/-- A list that is right, as cells of the lattice. -/
def GoodC (d : Nat) (L : List Cl) : Prop := d ≤ 64 ∧ L.length = d ∧ ∀ c ∈ L, lt d c
theorem chk_good {a : Int} {l : List S34} (hf : ∀ x ∈ l, fit x) (h : chk a l = 0) : ∃ (d : Nat) (L : List Cl), a = d ∧ GoodC d L ∧ l = L.map dec := by
  unfold chk at h
  by_cases h1 : a < 0
  · rw [if_pos h1] at h; cases h
  rw [if_neg h1] at h
  by_cases h2 : a > 64
  · rw [if_pos h2] at h; cases h
  rw [if_neg h2] at h
  by_cases h3 : (l.length : Int) = a
  · rw [if_pos h3] at h
    by_cases h4 : l.all (right a.toNat) = true
    · obtain ⟨L, rfl, hL⟩ := rights_dec hf h4
      refine ⟨a.toNat, L, by omega, ⟨by omega, ?_, hL⟩, rfl⟩
      rw [List.length_map] at h3; omega
    · rw [if_neg h4] at h; cases h
  · rw [if_neg h3] at h; cases h
theorem good_chk {d : Nat} {L : List Cl} (h : GoodC d L) : chk (d : Int) (L.map dec) = 0 := by
  obtain ⟨h1, h2, h3⟩ := h
  unfold chk
  rw [if_neg (by omega), if_neg (by omega), if_pos (by rw [List.length_map, h2]), if_pos]
  rw [List.all_eq_true]
  intro x hx
  obtain ⟨c, hc, rfl⟩ := List.mem_map.1 hx
  exact dec_right (h3 c hc)
theorem good_fit {d : Nat} {L : List Cl} (h : GoodC d L) : ∀ x ∈ L.map dec, fit x := by
  intro x hx
  obtain ⟨c, hc, rfl⟩ := List.mem_map.1 hx
  exact dec_fit h.1 (h.2.2 c hc)
theorem good_len {d : Nat} {L : List Cl} (h : GoodC d L) : (L.map dec).length < 9223372036854775807 := by
  have h1 := h.1
  have h2 := h.2.1
  rw [List.length_map]; omega
theorem or_dec {m n : Nat} (hm : m < 2 ^ 64) (hn : n < 2 ^ 64) : Go.bits .or .u64 (m : Int) (n : Int) = ((m ||| n : Nat) : Int) := u64_or_nat m n (by omega) (by omega)
theorem both_eq (k : Nat) (c e : Cl) (hc : lt 64 c) (he : lt 64 e) : cells_both.f (k + 1) (dec c).f0 (dec c).f1 (dec c).f2 (dec e).f0 (dec e).f1 (dec e).f2 = some ((dec (J c e)).f0, (dec (J c e)).f1, (dec (J c e)).f2) := by
  rcases c with _ | ⟨m, _ | a⟩ <;> rcases e with _ | ⟨n, _ | b⟩ <;> simp only [dec, cells_both.f, cells_both.j0, J, mix]
  all_goals simp only [lt] at hc he
  all_goals first | (simp [or_dec hc he]; done) | (simp; done) | simp [or_dec hc he]
  by_cases h : a = b
  · subst h; simp [dec]
  · simp [h, dec]
theorem refTwo_eq (k : Nat) (c e : Cl) (hc : lt 64 c) (he : lt 64 e) : stackyardref04_Two.f (k + 1) (dec c).f0 (dec c).f1 (dec c).f2 (dec e).f0 (dec e).f1 (dec e).f2 = some ((dec (J c e)).f0, (dec (J c e)).f1, (dec (J c e)).f2) := by
  rcases c with _ | ⟨m, _ | a⟩ <;> rcases e with _ | ⟨n, _ | b⟩ <;> simp only [dec, stackyardref04_Two.f, stackyardref04_Two.j0, J, mix]
  all_goals simp only [lt] at hc he
  all_goals first | (simp [or_dec hc he]; done) | (simp; done) | simp [or_dec hc he]
  by_cases h : a = b
  · subst h; simp [dec]
  · simp [h, dec]
theorem both_ev (c e : Cl) (hc : lt 64 c) (he : lt 64 e) : Ev (fun k => cells_both.f k (dec c).f0 (dec c).f1 (dec c).f2 (dec e).f0 (dec e).f1 (dec e).f2) ((dec (J c e)).f0, (dec (J c e)).f1, (dec (J c e)).f2) :=
  ⟨1, fun k hk => by obtain ⟨m, rfl⟩ : ∃ m, k = m + 1 := ⟨k - 1, by omega⟩; exact both_eq m c e hc he⟩
theorem refTwo_ev (c e : Cl) (hc : lt 64 c) (he : lt 64 e) : Ev (fun k => stackyardref04_Two.f k (dec c).f0 (dec c).f1 (dec c).f2 (dec e).f0 (dec e).f1 (dec e).f2) ((dec (J c e)).f0, (dec (J c e)).f1, (dec (J c e)).f2) :=
  ⟨1, fun k hk => by obtain ⟨m, rfl⟩ : ∃ m, k = m + 1 := ⟨k - 1, by omega⟩; exact refTwo_eq m c e hc he⟩
theorem lt_le {d : Nat} (hd : d ≤ 64) {c : Cl} (h : lt d c) : lt 64 c := by
  rcases c with _ | ⟨m, u⟩
  · trivial
  · exact Nat.lt_of_lt_of_le h (Nat.pow_le_pow_right (by decide) hd)
theorem rd_dec (L : List Cl) (i : Nat) (h : i < L.length) : rd_T34 (L.map dec) (i : Int) = dec L[i] := by
  simp [rd_T34, List.getD_eq_getElem?_getD, List.getElem?_eq_getElem h]

theorem Both_l0 (d : Nat) (F G : List Cl) (hF : GoodC d F) (hG : GoodC d G) : ∀ (r i : Nat) (acc : List S34), i + r = d → acc.length = i →
    Ev (fun k => cells_Both.l0 k (F.map dec) (G.map dec) acc (d : Int) (i : Int)) (acc ++ (List.zipWith J (F.drop i) (G.drop i)).map dec, 0)
  | 0, i, acc, h, _ => by
    refine Ev.step (fun k => cells_Both.l0.eq_2 ..) ?_
    have h1 := hF.2.1
    rw [List.drop_eq_nil_of_le (by omega)]
    have e : ¬ (i : Int) < (d : Int) := by omega
    simp only [if_neg e, List.zipWith_nil_left, List.map_nil, List.append_nil]
    exact Ev.now _
  | r + 1, i, acc, h, ha => by
    refine Ev.step (fun k => cells_Both.l0.eq_2 ..) ?_
    have h1 := hF.2.1
    have h2 := hG.2.1
    have hd := hF.1
    have hi : i < F.length := by omega
    have hj : i < G.length := by omega
    have e : (i : Int) < (d : Int) := by omega
    have e0 : (0 : Int) ≤ (i : Int) := by omega
    have e1 : (i : Int) < ((F.map dec).length : Int) := by rw [List.length_map]; omega
    have e2 : (i : Int) < ((G.map dec).length : Int) := by rw [List.length_map]; omega
    have e3 : acc.length < 5864062014805 := by omega
    simp only [if_pos e, if_pos e0, if_pos e1, if_pos e2, if_pos e3, rd_dec F i hi, rd_dec G i hj, wrap_succ i (by omega)]
    refine Ev.bind (both_ev _ _ (lt_le hd (hF.2.2 _ (List.getElem_mem hi))) (lt_le hd (hG.2.2 _ (List.getElem_mem hj)))) ?_
    have := Both_l0 d F G hF hG r (i + 1) (acc ++ [dec (J F[i] G[i])]) (by omega) (by simp [ha])
    rw [List.drop_eq_getElem_cons hi, List.drop_eq_getElem_cons hj, List.zipWith_cons_cons, List.map_cons]
    rw [List.append_assoc, List.singleton_append] at this
    exact this
theorem refBoth_l0 (d : Nat) (F G : List Cl) (hF : GoodC d F) (hG : GoodC d G) : ∀ (r i : Nat) (acc : List S34), i + r = d → acc.length = i →
    Ev (fun k => stackyardref04_Both.l0 k (d : Int) (F.map dec) (G.map dec) acc (i : Int)) (acc ++ (List.zipWith J (F.drop i) (G.drop i)).map dec, 0)
  | 0, i, acc, h, _ => by
    refine Ev.step (fun k => stackyardref04_Both.l0.eq_2 ..) ?_
    have h1 := hF.2.1
    rw [List.drop_eq_nil_of_le (by omega)]
    have e : ¬ (i : Int) < (d : Int) := by omega
    simp only [if_neg e, List.zipWith_nil_left, List.map_nil, List.append_nil]
    exact Ev.now _
  | r + 1, i, acc, h, ha => by
    refine Ev.step (fun k => stackyardref04_Both.l0.eq_2 ..) ?_
    have h1 := hF.2.1
    have h2 := hG.2.1
    have hd := hF.1
    have hi : i < F.length := by omega
    have hj : i < G.length := by omega
    have e : (i : Int) < (d : Int) := by omega
    have e0 : (0 : Int) ≤ (i : Int) := by omega
    have e1 : (i : Int) < ((F.map dec).length : Int) := by rw [List.length_map]; omega
    have e2 : (i : Int) < ((G.map dec).length : Int) := by rw [List.length_map]; omega
    have e3 : acc.length < 5864062014805 := by omega
    simp only [if_pos e, if_pos e0, if_pos e1, if_pos e2, if_pos e3, rd_dec F i hi, rd_dec G i hj, wrap_succ i (by omega)]
    refine Ev.bind (refTwo_ev _ _ (lt_le hd (hF.2.2 _ (List.getElem_mem hi))) (lt_le hd (hG.2.2 _ (List.getElem_mem hj)))) ?_
    have := refBoth_l0 d F G hF hG r (i + 1) (acc ++ [dec (J F[i] G[i])]) (by omega) (by simp [ha])
    rw [List.drop_eq_getElem_cons hi, List.drop_eq_getElem_cons hj, List.zipWith_cons_cons, List.map_cons]
    rw [List.append_assoc, List.singleton_append] at this
    exact this
theorem good_zip {d : Nat} {F G : List Cl} (hF : GoodC d F) (hG : GoodC d G) : GoodC d (List.zipWith J F G) :=
  ⟨hF.1, by rw [List.length_zipWith, hF.2.1, hG.2.1, Nat.min_self], lt_zip hF.2.2 hG.2.2⟩
theorem good_map {d : Nat} {F G : List Cl} (hF : GoodC d F) (hG : GoodC d G) : GoodC d (G.map (ofC F)) :=
  ⟨hF.1, by rw [List.length_map, hG.2.1], by intro c hc; obtain ⟨x, _, rfl⟩ := List.mem_map.1 hc; exact lt_ofC hF.2.2 x⟩
/-- All that any two lists of cells may be: not both right, or both of the lattice. -/
theorem cases2 (a : Int) (l m : List S34) (hf : ∀ x ∈ l, fit x) (hg : ∀ x ∈ m, fit x) : chk2 a l m ≠ 0 ∨ chk2 a l m = 0 ∧ ∃ (d : Nat) (F G : List Cl), a = d ∧ GoodC d F ∧ GoodC d G ∧ l = F.map dec ∧ m = G.map dec := by
  by_cases h : chk2 a l m = 0
  · refine .inr ⟨h, ?_⟩
    unfold chk2 at h
    by_cases h1 : chk a l = 0
    · rw [if_pos h1] at h
      obtain ⟨d, F, rfl, hF, rfl⟩ := chk_good hf h1
      obtain ⟨d', G, e, hG, rfl⟩ := chk_good hg h
      obtain rfl : d = d' := by omega
      exact ⟨d, F, G, rfl, hF, hG, rfl, rfl⟩
    · rw [if_neg h1] at h; exact absurd h h1
  · exact .inl h
theorem chk2_good {d : Nat} {F G : List Cl} (hF : GoodC d F) (hG : GoodC d G) : chk2 (d : Int) (F.map dec) (G.map dec) = 0 := by
  unfold chk2; rw [if_pos (good_chk hF), good_chk hG]
theorem Both_good {d : Nat} {F G : List Cl} (hF : GoodC d F) (hG : GoodC d G) : Ev (fun k => cells_Both.f k (d : Int) (F.map dec) (G.map dec)) ((List.zipWith J F G).map dec, 0) := by
  refine Ev.bind (two_ev _ _ _ (good_fit hF) (good_len hF) (good_fit hG) (good_len hG)) ?_
  simp only [chk2_good hF hG, if_true]
  have := Both_l0 d F G hF hG d 0 [] (by omega) rfl
  simpa using this
theorem Both_bad {a : Int} {l m : List S34} (hf : ∀ x ∈ l, fit x) (hl : l.length < 9223372036854775807) (hg : ∀ x ∈ m, fit x) (hm : m.length < 9223372036854775807) (h : chk2 a l m ≠ 0) : Ev (fun k => cells_Both.f k a l m) ([], chk2 a l m) := by
  refine Ev.bind (two_ev _ _ _ hf hl hg hm) ?_
  simp only [if_neg h]
  exact Ev.now _
theorem refBoth_good {d : Nat} {F G : List Cl} (hF : GoodC d F) (hG : GoodC d G) : Ev (fun k => stackyardref04_Both.f k (d : Int) (F.map dec) (G.map dec)) ((List.zipWith J F G).map dec, 0) := by
  refine Ev.bind (checks_ev _ _ _ (good_fit hF) (good_fit hG)) ?_
  simp only [chk2_good hF hG, if_true]
  have := refBoth_l0 d F G hF hG d 0 [] (by omega) rfl
  simpa using this
theorem refBoth_bad {a : Int} {l m : List S34} (hf : ∀ x ∈ l, fit x) (hg : ∀ x ∈ m, fit x) (h : chk2 a l m ≠ 0) : Ev (fun k => stackyardref04_Both.f k a l m) ([], chk2 a l m) := by
  refine Ev.bind (checks_ev _ _ _ hf hg) ?_
  simp only [if_neg h]
  exact Ev.now _

def reads : Cl → Nat
  | .top => 0
  | .low m _ => m
def bare : Cl → Cl
  | .top => .top
  | .low _ u => .low 0 u
theorem ofC_fol (F : List Cl) (c : Cl) : ofC F c = fol F 0 (reads c) (bare c) := by
  rcases c with _ | ⟨m, u⟩
  · simp only [reads, bare, fol_top, ofC]
  · rfl
theorem dec_reads (c : Cl) : (dec c).f0 = (reads c : Int) := by rcases c with _ | ⟨m, _ | a⟩ <;> rfl
theorem dec_bare (c : Cl) : dec (bare c) = ⟨0, (dec c).f1, (dec c).f2⟩ := by rcases c with _ | ⟨m, _ | a⟩ <;> rfl
theorem lt_bare (c : Cl) (d : Nat) : lt d (bare c) := by
  rcases c with _ | ⟨m, u⟩
  · trivial
  · exact Nat.two_pow_pos d
theorem Then_l1 (d : Nat) (F : List Cl) (hF : GoodC d F) (x9 x21 : List S34) (x22 x23 : Int) (c : Cl) (hc : lt d c) (h9 : x9.length < 5864062014805) (v : List S34 × Int) : ∀ (r i : Nat) (acc : Cl), i + r = d → lt 64 acc →
    Ev (fun k => cells_Then.l0 k (d : Int) (F.map dec) (x9 ++ [dec (fol (F.drop i) i (reads c) acc)]) x21 x22 (wrap64 (x23 + 1))) v →
    Ev (fun k => cells_Then.l1 k (d : Int) (F.map dec) x9 x21 x22 x23 (d : Int) (i : Int) (dec c).f0 (dec c).f1 (dec c).f2 (dec acc).f0 (dec acc).f1 (dec acc).f2) v
  | 0, i, acc, h, ha, H => by
    refine Ev.step (fun k => cells_Then.l1.eq_2 ..) ?_
    have h1 := hF.2.1
    rw [List.drop_eq_nil_of_le (by omega)] at H
    have e : ¬ (i : Int) < (d : Int) := by omega
    simp only [if_neg e, if_pos h9]
    exact H
  | r + 1, i, acc, h, ha, H => by
    refine Ev.step (fun k => cells_Then.l1.eq_2 ..) ?_
    have h1 := hF.2.1
    have hd := hF.1
    have hi : i < F.length := by omega
    have e : (i : Int) < (d : Int) := by omega
    have e0 : (0 : Int) ≤ (i : Int) := by omega
    have e1 : (i : Int) < ((F.map dec).length : Int) := by rw [List.length_map]; omega
    have hb := bit_eq (dec c).f0 (dec_fit hd hc).1 (dec_fit hd hc).2 i (by omega)
    rw [List.drop_eq_getElem_cons hi, fol] at H
    have hr : (dec c).f0.toNat = reads c := by rw [dec_reads]; omega
    rw [hr] at hb
    simp only [if_pos e, if_pos e0, if_pos e1, rd_dec F i hi, wrap_succ i (by omega), hb]
    have hlt := lt_le hd (hF.2.2 _ (List.getElem_mem hi))
    by_cases b : (reads c).testBit i = true
    · simp only [b, if_true] at H ⊢
      refine Ev.bind (both_ev _ _ ha hlt) ?_
      exact Then_l1 d F hF x9 x21 x22 x23 c hc h9 v r (i + 1) _ (by omega) (lt_J ha hlt) H
    · simp only [if_neg b] at H ⊢
      simp only [show ¬ ((0 : Int) = 1) by decide, if_false]
      exact Then_l1 d F hF x9 x21 x22 x23 c hc h9 v r (i + 1) _ (by omega) ha H
theorem Then_l0 (d : Nat) (F G : List Cl) (hF : GoodC d F) (hG : GoodC d G) : ∀ (r i : Nat) (acc : List S34), i + r = d → acc.length = i →
    Ev (fun k => cells_Then.l0 k (d : Int) (F.map dec) acc (G.map dec) (d : Int) (i : Int)) (acc ++ ((G.drop i).map (ofC F)).map dec, 0)
  | 0, i, acc, h, _ => by
    refine Ev.step (fun k => cells_Then.l0.eq_2 ..) ?_
    have h1 := hG.2.1
    rw [List.drop_eq_nil_of_le (by omega)]
    have e : ¬ (i : Int) < (d : Int) := by omega
    simp only [if_neg e, List.map_nil, List.append_nil]
    exact Ev.now _
  | r + 1, i, acc, h, ha => by
    refine Ev.step (fun k => cells_Then.l0.eq_2 ..) ?_
    have h2 := hG.2.1
    have hd := hF.1
    have hj : i < G.length := by omega
    have e : (i : Int) < (d : Int) := by omega
    have e0 : (0 : Int) ≤ (i : Int) := by omega
    have e2 : (i : Int) < ((G.map dec).length : Int) := by rw [List.length_map]; omega
    simp only [if_pos e, if_pos e0, if_pos e2, rd_dec G i hj]
    have hb := dec_bare G[i]
    have hc := hG.2.2 _ (List.getElem_mem hj)
    have := Then_l1 d F hF acc (G.map dec) (d : Int) (i : Int) G[i] hc (by omega) (acc ++ ((G.drop i).map (ofC F)).map dec, 0) d 0 (bare G[i]) (by omega) (lt_bare _ _) ?_
    · rw [hb] at this; exact this
    · rw [wrap_succ i (by omega), List.drop_zero, ← ofC_fol]
      have := Then_l0 d F G hF hG r (i + 1) (acc ++ [dec (ofC F G[i])]) (by omega) (by simp [ha])
      rw [List.drop_eq_getElem_cons hj, List.map_cons, List.map_cons]
      rw [List.append_assoc, List.singleton_append] at this
      exact this
theorem Then_good {d : Nat} {F G : List Cl} (hF : GoodC d F) (hG : GoodC d G) : Ev (fun k => cells_Then.f k (d : Int) (F.map dec) (G.map dec)) ((G.map (ofC F)).map dec, 0) := by
  refine Ev.bind (two_ev _ _ _ (good_fit hF) (good_len hF) (good_fit hG) (good_len hG)) ?_
  simp only [chk2_good hF hG, if_true]
  have := Then_l0 d F G hF hG d 0 [] (by omega) rfl
  have e : (((G.map dec).length : Nat) : Int) = d := by rw [List.length_map, hG.2.1]
  rw [e]
  simpa using this
theorem Then_bad {a : Int} {l m : List S34} (hf : ∀ x ∈ l, fit x) (hl : l.length < 9223372036854775807) (hg : ∀ x ∈ m, fit x) (hm : m.length < 9223372036854775807) (h : chk2 a l m ≠ 0) : Ev (fun k => cells_Then.f k a l m) ([], chk2 a l m) := by
  refine Ev.bind (two_ev _ _ _ hf hl hg hm) ?_
  simp only [if_neg h]
  exact Ev.now _
theorem Of_l0 (d : Nat) (F : List Cl) (hF : GoodC d F) (c : Cl) (hc : lt d c) : ∀ (r i : Nat) (acc : Cl), i + r = d → lt 64 acc →
    Ev (fun k => stackyardref04_Of.l0 k (F.map dec) (i : Int) (dec c).f0 (dec c).f1 (dec c).f2 (dec acc).f0 (dec acc).f1 (dec acc).f2) ((dec (fol (F.drop i) i (reads c) acc)).f0, (dec (fol (F.drop i) i (reads c) acc)).f1, (dec (fol (F.drop i) i (reads c) acc)).f2)
  | 0, i, acc, h, ha => by
    refine Ev.step (fun k => stackyardref04_Of.l0.eq_2 ..) ?_
    have h1 := hF.2.1
    rw [List.drop_eq_nil_of_le (by omega)]
    have e : ¬ (i : Int) < ((F.map dec).length : Int) := by rw [List.length_map]; omega
    simp only [if_neg e]
    exact Ev.now _
  | r + 1, i, acc, h, ha => by
    refine Ev.step (fun k => stackyardref04_Of.l0.eq_2 ..) ?_
    have h1 := hF.2.1
    have hd := hF.1
    have hi : i < F.length := by omega
    have e0 : (0 : Int) ≤ (i : Int) := by omega
    have e1 : (i : Int) < ((F.map dec).length : Int) := by rw [List.length_map]; omega
    have hb := has_eq (dec c).f0 (dec_fit hd hc).1 (dec_fit hd hc).2 i (by omega)
    have hr : (dec c).f0.toNat = reads c := by rw [dec_reads]; omega
    rw [hr] at hb
    rw [List.drop_eq_getElem_cons hi, fol]
    simp only [if_pos e0, if_pos e1, rd_dec F i hi, wrap_succ i (by omega), hb, Option.bind_some]
    have hlt := lt_le hd (hF.2.2 _ (List.getElem_mem hi))
    by_cases b : (reads c).testBit i = true
    · simp only [b, if_true]
      refine Ev.bind (refTwo_ev _ _ ha hlt) ?_
      exact Of_l0 d F hF c hc r (i + 1) _ (by omega) (lt_J ha hlt)
    · simp only [if_neg b]
      exact Of_l0 d F hF c hc r (i + 1) _ (by omega) ha
theorem Of_ev (d : Nat) (F : List Cl) (hF : GoodC d F) (c : Cl) (hc : lt d c) : Ev (fun k => stackyardref04_Of.f k (F.map dec) (dec c).f0 (dec c).f1 (dec c).f2) ((dec (ofC F c)).f0, (dec (ofC F c)).f1, (dec (ofC F c)).f2) := by
  have := Of_l0 d F hF c hc d 0 (bare c) (by omega) (lt_bare _ _)
  rw [List.drop_zero, ← ofC_fol, dec_bare] at this
  exact this
theorem refThen_l0 (d : Nat) (F G : List Cl) (hF : GoodC d F) (hG : GoodC d G) : ∀ (r i : Nat) (acc : List S34), i + r = d → acc.length = i →
    Ev (fun k => stackyardref04_Then.l0 k (d : Int) (F.map dec) (G.map dec) acc (i : Int)) (acc ++ ((G.drop i).map (ofC F)).map dec, 0)
  | 0, i, acc, h, _ => by
    refine Ev.step (fun k => stackyardref04_Then.l0.eq_2 ..) ?_
    have h1 := hG.2.1
    rw [List.drop_eq_nil_of_le (by omega)]
    have e : ¬ (i : Int) < (d : Int) := by omega
    simp only [if_neg e, List.map_nil, List.append_nil]
    exact Ev.now _
  | r + 1, i, acc, h, ha => by
    refine Ev.step (fun k => stackyardref04_Then.l0.eq_2 ..) ?_
    have h2 := hG.2.1
    have hd := hF.1
    have hj : i < G.length := by omega
    have e : (i : Int) < (d : Int) := by omega
    have e0 : (0 : Int) ≤ (i : Int) := by omega
    have e2 : (i : Int) < ((G.map dec).length : Int) := by rw [List.length_map]; omega
    have e3 : acc.length < 5864062014805 := by omega
    simp only [if_pos e, if_pos e0, if_pos e2, if_pos e3, rd_dec G i hj, wrap_succ i (by omega)]
    refine Ev.bind (Of_ev d F hF _ (hG.2.2 _ (List.getElem_mem hj))) ?_
    have := refThen_l0 d F G hF hG r (i + 1) (acc ++ [dec (ofC F G[i])]) (by omega) (by simp [ha])
    rw [List.drop_eq_getElem_cons hj, List.map_cons, List.map_cons]
    rw [List.append_assoc, List.singleton_append] at this
    exact this
theorem refThen_good {d : Nat} {F G : List Cl} (hF : GoodC d F) (hG : GoodC d G) : Ev (fun k => stackyardref04_Then.f k (d : Int) (F.map dec) (G.map dec)) ((G.map (ofC F)).map dec, 0) := by
  refine Ev.bind (checks_ev _ _ _ (good_fit hF) (good_fit hG)) ?_
  simp only [chk2_good hF hG, if_true]
  have := refThen_l0 d F G hF hG d 0 [] (by omega) rfl
  simpa using this
theorem refThen_bad {a : Int} {l m : List S34} (hf : ∀ x ∈ l, fit x) (hg : ∀ x ∈ m, fit x) (h : chk2 a l m ≠ 0) : Ev (fun k => stackyardref04_Then.f k a l m) ([], chk2 a l m) := by
  refine Ev.bind (checks_ev _ _ _ hf hg) ?_
  simp only [if_neg h]
  exact Ev.now _

theorem ne3 (x y : S34) : (!((x.f0) == (y.f0)) || (!((x.f1) == (y.f1)) || (!((x.f2) == (y.f2))))) = !decide (x = y) := by
  obtain ⟨a, b, c⟩ := x
  obtain ⟨d, e, f⟩ := y
  by_cases h : (⟨a, b, c⟩ : S34) = ⟨d, e, f⟩
  · have h' := h
    rw [S34.mk.injEq] at h'
    obtain ⟨rfl, rfl, rfl⟩ := h'
    simp
  · rw [decide_eq_false h]
    rw [S34.mk.injEq] at h
    by_cases h1 : a = d
    · by_cases h2 : b = e
      · by_cases h3 : c = f
        · exact absurd ⟨h1, h2, h3⟩ h
        · simp [h3]
      · simp [h2]
    · simp [h1]
theorem same_l0 (l m : List S34) (hlen : l.length = m.length) (hl : l.length < 9223372036854775807) : ∀ (r i : Nat), i + r = l.length → Ev (fun k => stackyardref04_Same.l0 k l m (i : Int)) (decide (l.drop i = m.drop i))
  | 0, i, h => by
    refine Ev.step (fun k => stackyardref04_Same.l0.eq_2 ..) ?_
    rw [List.drop_eq_nil_of_le (by omega), List.drop_eq_nil_of_le (by omega)]
    have e : ¬ (i : Int) < (l.length : Int) := by omega
    simp only [if_neg e]
    exact Ev.now _
  | r + 1, i, h => by
    refine Ev.step (fun k => stackyardref04_Same.l0.eq_2 ..) ?_
    have hi : i < l.length := by omega
    have e : (i : Int) < (l.length : Int) := by omega
    have e1 : (i : Int) < (m.length : Int) := by omega
    have e0 : (0 : Int) ≤ (i : Int) := by omega
    simp only [if_pos e, if_pos e0, if_pos e1, wrap_succ i (by omega), ne3]
    rw [rdT_drop l i hi, rdT_drop m i (by omega)]
    by_cases b : rd_T34 l (i : Int) = rd_T34 m (i : Int)
    · simp only [b, decide_true, Bool.not_true, Bool.false_eq_true, if_false, List.cons.injEq, true_and]
      exact same_l0 l m hlen hl r (i + 1) (by omega)
    · simp only [decide_eq_false b, Bool.not_false, if_true, List.cons.injEq, b, false_and, decide_false]
      exact Ev.now _
theorem same_ev (l m : List S34) (hl : l.length < 9223372036854775807) : Ev (fun k => stackyardref04_Same.f k l m) (decide (l = m)) := by
  unfold stackyardref04_Same.f
  by_cases h : l.length = m.length
  · simp only [if_pos (show ((l.length : Int) = (m.length : Int)) by omega)]
    have := same_l0 l m h hl l.length 0 (by omega)
    simpa using this
  · simp only [if_neg (show ¬ ((l.length : Int) = (m.length : Int)) by omega)]
    rw [decide_eq_false (fun e => h (by rw [e]))]
    exact Ev.now _
end Go.Proofs.YtkfpgniicfanoaaDoor.CellB
