/- CellF, for the statement CellsAlgebra: what it needs, no more. -/
import Derived.Test.YtkfpgniicfanoaaDoorZCellsAlgebraCellD
namespace Go.Proofs.YtkfpgniicfanoaaDoor.CellA
end Go.Proofs.YtkfpgniicfanoaaDoor.CellA
namespace Go.Proofs.YtkfpgniicfanoaaDoor.CellB
end Go.Proofs.YtkfpgniicfanoaaDoor.CellB
namespace Go.Proofs.YtkfpgniicfanoaaDoor.P
end Go.Proofs.YtkfpgniicfanoaaDoor.P
namespace Go.Proofs.YtkfpgniicfanoaaDoor.Plain
end Go.Proofs.YtkfpgniicfanoaaDoor.Plain
namespace Go.Proofs.YtkfpgniicfanoaaDoor.Pure
open Go.RowKit Go.Proofs.YtkfpgniicfanoaaDoor.P Go.Proofs.YtkfpgniicfanoaaDoor.Plain Go.Proofs.YtkfpgniicfanoaaDoor.CellA Go.Proofs.YtkfpgniicfanoaaDoor.CellB Go.Proofs.YtkfpgniicfanoaaDoorW.PrintWords Go.Proofs.YtkfpgniicfanoaaDoorW.PrintLast Go.Proofs.YtkfpgniicfanoaaDoorW.PrintMore
set_option linter.unusedVariables false
set_option linter.unusedSimpArgs false
def unit1 (i : Nat) : Cl := .low (2 ^ i) none
def units (d : Nat) : List Cl := (List.range d).map unit1
def unitsFrom : Nat → Nat → List Cl
  | 0, _ => []
  | r + 1, i => unit1 i :: unitsFrom r (i + 1)
theorem units_from : ∀ (r i : Nat), (List.range' i r).map unit1 = unitsFrom r i
  | 0, _ => rfl
  | r + 1, i => by simp only [List.range'_succ, List.map_cons, unitsFrom, units_from r (i + 1)]
theorem units_eq (d : Nat) : units d = unitsFrom d 0 := by
  rw [← units_from, ← List.range_eq_range']; rfl
theorem own1_dec (i : Nat) (h : i < 64) : own1 i = dec (unit1 i) := by
  unfold own1 unit1 dec
  have : shl .u64 1 (i : Int) = ((2 ^ i : Nat) : Int) := by
    unfold shl
    have e : min ((i : Int).toNat) IntKind.u64.bits = i := by
      rw [Int.toNat_natCast]; exact Nat.min_eq_left (by show i ≤ 64; omega)
    rw [e, IntKind.wrap_u64]
    have hp : 2 ^ i < 2 ^ 64 := Nat.pow_lt_pow_right (by decide) h
    rw [Int.one_mul, show ((2 : Int) ^ i) = ((2 ^ i : Nat) : Int) by simp]
    generalize 2 ^ i = q at hp ⊢
    omega
  rw [this]
theorem ones_dec (d : Nat) (hd : d ≤ 64) : ones d = (units d).map dec := by
  unfold ones units
  rw [List.map_map]
  refine List.map_congr_left fun i hi => ?_
  rw [own1_dec i (by have := List.mem_range.1 hi; omega)]; rfl
theorem units_good (d : Nat) (hd : d ≤ 64) : GoodC d (units d) := by
  refine ⟨hd, by simp [units], fun c hc => ?_⟩
  obtain ⟨i, hi, rfl⟩ := List.mem_map.1 hc
  exact Nat.pow_lt_pow_right (by decide) (List.mem_range.1 hi)
def some_bits (m : Nat) : Nat → Nat → Nat
  | 0, _ => 0
  | r + 1, i => (if m.testBit i then 2 ^ i else 0) ||| some_bits m r (i + 1)
theorem some_test (m j : Nat) : ∀ r i, (some_bits m r i).testBit j = (decide (i ≤ j ∧ j < i + r) && m.testBit j)
  | 0, i => by
    have : decide (i ≤ j ∧ j < i + 0) = false := decide_eq_false (by omega)
    rw [this]; simp [some_bits]
  | r + 1, i => by
    simp only [some_bits, Nat.testBit_or, some_test m j r (i + 1)]
    by_cases e : i = j
    · subst e
      have h1 : decide (i ≤ i ∧ i < i + (r + 1)) = true := decide_eq_true (by omega)
      have h2 : decide (i + 1 ≤ i ∧ i < i + 1 + r) = false := decide_eq_false (by omega)
      rw [h1, h2]
      by_cases b : m.testBit i = true
      · simp [b, Nat.testBit_two_pow_self]
      · simp [show m.testBit i = false by simpa using b]
    · have h0 : (if m.testBit i = true then 2 ^ i else 0).testBit j = false := by
        split
        · rw [Nat.testBit_two_pow]; exact decide_eq_false e
        · exact Nat.zero_testBit j
      have h1 : decide (i ≤ j ∧ j < i + (r + 1)) = decide (i + 1 ≤ j ∧ j < i + 1 + r) := decide_eq_decide.2 (by omega)
      rw [h0, h1, Bool.false_or]
theorem fol_units (m : Nat) (u : Option Int) : ∀ (r i a : Nat), fol (unitsFrom r i) i m (.low a u) = .low (a ||| some_bits m r i) u
  | 0, _, _ => by simp [unitsFrom, fol, some_bits]
  | r + 1, i, a => by
    simp only [unitsFrom, fol, some_bits]
    by_cases b : m.testBit i = true
    · simp only [b, if_true]
      have : J (.low a u) (unit1 i) = .low (a ||| 2 ^ i) u := by cases u <;> rfl
      rw [this, fol_units m u r (i + 1), Nat.or_assoc]
    · simp only [if_neg b, Nat.zero_or]
      exact fol_units m u r (i + 1) a
theorem unit_left (d : Nat) (c : Cl) (h : lt d c) : ofC (units d) c = c := by
  rcases c with _ | ⟨m, u⟩
  · rfl
  · simp only [ofC, units_eq]
    rw [fol_units, Nat.zero_or]
    congr 1
    refine Nat.eq_of_testBit_eq fun j => ?_
    rw [some_test]
    by_cases hj : j < d
    · rw [decide_eq_true (by omega), Bool.true_and]
    · rw [Nat.testBit_lt_two_pow (Nat.lt_of_lt_of_le h (Nat.pow_le_pow_right (by decide) (by omega))), Bool.and_false]
theorem J_bottom (x : Cl) : J (.low 0 none) x = x := by rcases x with _ | ⟨n, v⟩ <;> simp [J, mix]
theorem fol_pick (i : Nat) : ∀ (F : List Cl) (j : Nat) (a : Cl), fol F j (2 ^ i) a = if h : j ≤ i ∧ i - j < F.length then J a (F[i - j]'h.2) else a
  | [], j, a => by rw [dif_neg (by simp)]; rfl
  | x :: F, j, a => by
    simp only [fol]
    rw [fol_pick i F (j + 1), Nat.testBit_two_pow]
    by_cases e : i = j
    · subst e
      simp
      intro h
      exact absurd h.1 (by omega)
    · have e2 : decide (i = j) = false := decide_eq_false e
      rw [e2]
      simp only [Bool.false_eq_true, if_false]
      by_cases h : j + 1 ≤ i ∧ i - (j + 1) < F.length
      · rw [dif_pos h, dif_pos ⟨by omega, by simp; omega⟩]
        congr 1
        have : i - j = (i - (j + 1)) + 1 := by omega
        simp [this]
      · rw [dif_neg h, dif_neg (by simp; omega)]
theorem unit_right (d : Nat) (F : List Cl) (h : F.length = d) : (units d).map (ofC F) = F := by
  refine List.ext_getElem (by simp [units, h]) fun i h1 h2 => ?_
  simp only [List.getElem_map, units, List.getElem_range, unit1, ofC]
  rw [fol_pick, dif_pos ⟨Nat.zero_le _, by simpa using h2⟩, J_bottom]
  rfl
theorem zip_self : ∀ F : List Cl, List.zipWith J F F = F
  | [] => rfl
  | x :: F => by simp only [List.zipWith_cons_cons, J_self, zip_self F]
theorem zip_comm : ∀ F G : List Cl, List.zipWith J F G = List.zipWith J G F
  | [], G => by simp
  | _ :: _, [] => by simp
  | x :: F, y :: G => by simp only [List.zipWith_cons_cons, J_comm x y, zip_comm F G]
theorem zip_assoc : ∀ F G H : List Cl, List.zipWith J (List.zipWith J F G) H = List.zipWith J F (List.zipWith J G H)
  | [], _, _ => by simp
  | _ :: _, [], _ => by simp
  | _ :: _, _ :: _, [] => by simp
  | x :: F, y :: G, z :: H => by simp only [List.zipWith_cons_cons, J_assoc, zip_assoc F G H]
theorem maps_assoc (F G : List Cl) (H : List Cl) : H.map (ofC (G.map (ofC F))) = (H.map (ofC G)).map (ofC F) := by
  rw [List.map_map]
  exact List.map_congr_left fun c _ => then_assoc F G c
theorem maps_unit (d : Nat) (F : List Cl) (h : ∀ c ∈ F, lt d c) : F.map (ofC (units d)) = F := by
  conv => rhs; rw [← List.map_id F]
  exact List.map_congr_left fun c hc => unit_left d c (h c hc)
theorem CellsAlgebra (a : Int) (l m n : List S34) (hl : Fits l) (hm : Fits m) (hn : Fits n) : Ev (fun k => stackyardlaw04_CellsAlgebra.f k a l m n) true := by
  refine Ev.bind awake_ev ?_
  simp only [if_true]
  rcases cases3 a l m n hl hm hn with h | ⟨h, d, F, G, H, rfl, hF, hG, hH, rfl, rfl, rfl⟩
  · refine Ev.bind h ?_
    simp only [Bool.false_eq_true, if_false]; exact Ev.now _
  · refine Ev.bind h ?_
    simp only [if_true]
    have hd := hF.1
    have hU := units_good d hd
    have h1 : Ev (fun k => cells_One.f k (d : Int)) ((units d).map dec, 0) := by
      have := One_ev (d : Int)
      unfold oneV at this
      rw [if_pos (dimsV_nat hd), Int.toNat_natCast, ones_dec d hd] at this
      exact this
    refine Ev.bind h1 ?_
    simp only [if_true]
    refine Ev.bind (both_ev2 hF hF) (Ev.bind (same_good (good_zip hF hF) (zip_self F)) ?_)
    simp only [if_true]
    refine Ev.bind (both_ev2 hF hG) (Ev.bind (both_ev2 hG hF) (Ev.bind (same_good (good_zip hF hG) (zip_comm F G)) ?_))
    simp only [if_true]
    refine Ev.bind (both_ev2 hF hG) (Ev.bind (both_ev2 (good_zip hF hG) hH) (Ev.bind (both_ev2 hG hH) (Ev.bind (both_ev2 hF (good_zip hG hH)) (Ev.bind (same_good (good_zip (good_zip hF hG) hH) (zip_assoc F G H)) ?_))))
    refine Ev.step (fun k => stackyardlaw04_CellsAlgebra.j0.eq_2 ..) ?_
    simp only [Bool.not_true, Bool.false_eq_true, if_false]
    refine Ev.bind (then_ev hF hG) (Ev.bind (then_ev (good_map hF hG) hH) (Ev.bind (then_ev hG hH) (Ev.bind (then_ev hF (good_map hG hH)) (Ev.bind (same_good (good_map (good_map hF hG) hH) (maps_assoc F G H)) ?_))))
    simp only [if_true]
    refine Ev.bind (then_ev hU hF) (Ev.bind (same_good (good_map hU hF) (maps_unit d F hF.2.2)) ?_)
    simp only [if_true]
    exact Ev.bind (then_ev hF hU) (Ev.bind (same_good (good_map hF hU) (unit_right d F hF.2.1)) (Ev.now _))
end Go.Proofs.YtkfpgniicfanoaaDoor.Pure
