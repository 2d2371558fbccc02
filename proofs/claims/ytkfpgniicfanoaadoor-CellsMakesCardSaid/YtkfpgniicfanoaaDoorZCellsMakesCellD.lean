/- CellD, for the statement CellsMakes: what it needs, no more. -/
import Derived.Test.YtkfpgniicfanoaaDoorZCellsMakesCellC
namespace Go.Proofs.YtkfpgniicfanoaaDoor.CellA
end Go.Proofs.YtkfpgniicfanoaaDoor.CellA
namespace Go.Proofs.YtkfpgniicfanoaaDoor.CellB
end Go.Proofs.YtkfpgniicfanoaaDoor.CellB
namespace Go.Proofs.YtkfpgniicfanoaaDoor.P
end Go.Proofs.YtkfpgniicfanoaaDoor.P
namespace Go.Proofs.YtkfpgniicfanoaaDoor.Plain
end Go.Proofs.YtkfpgniicfanoaaDoor.Plain
namespace Go.Proofs.YtkfpgniicfanoaaDoor.Pure
open Go.RowKit Go.Proofs.YtkfpgniicfanoaaDoor.P Go.Proofs.YtkfpgniicfanoaaDoor.Plain Go.Proofs.YtkfpgniicfanoaaDoor.CellA Go.Proofs.YtkfpgniicfanoaaDoor.CellB Go.Proofs.YtkfpgniicfanoaaDoorW.PrintWords Go.Proofs.YtkfpgniicfanoaaDoorW.PrintLast Go.Proofs.YtkfpgniicfanoaaDoorW.PrintMore
set_option linter.unusedVariables false
set_option linter.unusedSimpArgs false
def dimsV (a : Int) : Int := if a < 0 then 41 else if a > 64 then 41 else 0
theorem dims_eq (a : Int) : cells_dims.f a = some (dimsV a) := by unfold cells_dims.f dimsV; (repeat' split) <;> rfl
theorem refDim_eq (a : Int) : stackyardref04_Dim.f a = some (dimsV a) := by unfold stackyardref04_Dim.f dimsV; (repeat' split) <;> rfl
theorem dimsV_zero {a : Int} (h : dimsV a = 0) : ∃ d : Nat, a = d ∧ d ≤ 64 := by
  unfold dimsV at h
  by_cases h1 : a < 0
  · rw [if_pos h1] at h; cases h
  · by_cases h2 : a > 64
    · rw [if_neg h1, if_pos h2] at h; cases h
    · exact ⟨a.toNat, by omega, by omega⟩
def own1 (i : Nat) : S34 := ⟨shl .u64 1 (i : Int), 0, 0⟩
def ones (d : Nat) : List S34 := (List.range d).map own1
theorem ones_len (d : Nat) : (ones d).length = d := by simp [ones]
theorem ones_succ (i : Nat) : (List.range (i + 1)).map own1 = (List.range i).map own1 ++ [own1 i] := by rw [List.range_succ, List.map_append]; rfl
theorem one_l0 (d : Nat) (hd : d ≤ 64) : ∀ (r i : Nat), i + r = d → Ev (fun k => cells_one.l0 k ((List.range i).map own1 ++ List.replicate r z34) (d : Int) (i : Int)) (ones d)
  | 0, i, h => by
    refine Ev.step (fun k => cells_one.l0.eq_2 ..) ?_
    obtain rfl : i = d := by omega
    have e : ¬ (i : Int) < (i : Int) := by omega
    simp only [if_neg e, List.replicate_zero, List.append_nil]
    exact Ev.now _
  | r + 1, i, h => by
    refine Ev.step (fun k => cells_one.l0.eq_2 ..) ?_
    have hlen : ((List.range i).map own1).length = i := by simp
    have e : (i : Int) < (d : Int) := by omega
    have e0 : (0 : Int) ≤ (i : Int) := by omega
    have e1 : (i : Int) < ((((List.range i).map own1 ++ List.replicate (r + 1) z34).length : Nat) : Int) := by rw [List.length_append, hlen, List.length_replicate]; omega
    simp only [if_pos e, if_pos e0, if_pos e1, wrap_succ i (by omega)]
    have e2 : rd_T34 ((List.range i).map own1 ++ List.replicate (r + 1) z34) (i : Int) = z34 := by
      simp [rd_T34, List.getD_eq_getElem?_getD, List.getElem?_append_right, hlen, List.replicate_succ]
    rw [e2]
    have e3 : ((List.range i).map own1 ++ List.replicate (r + 1) z34).set (i : Int).toNat (⟨shl .u64 1 (i : Int), z34.f1, z34.f2⟩ : S34) = (List.range (i + 1)).map own1 ++ List.replicate r z34 := by
      rw [Int.toNat_natCast, List.set_append_right _ _ (by rw [hlen]; exact Nat.le_refl _), hlen, Nat.sub_self, List.replicate_succ, List.set_cons_zero, ones_succ, List.append_assoc]
      rfl
    rw [e3]
    exact one_l0 d hd r (i + 1) (by omega)
theorem one_ev (d : Nat) (hd : d ≤ 64) : Ev (fun k => cells_one.f k (d : Int)) (ones d) := by
  unfold cells_one.f
  have e0 : (0 : Int) ≤ (d : Int) := by omega
  have e1 : d ≤ 11728124029610 := by omega
  simp only [if_pos e0, Int.toNat_natCast, if_pos e1]
  have := one_l0 d hd d 0 (by omega)
  simpa using this
def oneV (a : Int) : List S34 × Int := if dimsV a = 0 then (ones a.toNat, 0) else ([], dimsV a)
theorem One_ev (a : Int) : Ev (fun k => cells_One.f k a) (oneV a) := by
  unfold cells_One.f oneV
  simp only [dims_eq, Option.bind_some]
  by_cases h : dimsV a = 0
  · obtain ⟨d, rfl, hd⟩ := dimsV_zero h
    simp only [if_pos h, Int.toNat_natCast]
    exact Ev.bind (one_ev d hd) (Ev.now _)
  · simp only [if_neg h]; exact Ev.now _
theorem refOne_l0 (d : Nat) (hd : d ≤ 64) : ∀ (r i : Nat), i + r = d → Ev (fun k => stackyardref04_One.l0 k (d : Int) ((List.range i).map own1) (i : Int)) (ones d, 0)
  | 0, i, h => by
    refine Ev.step (fun k => stackyardref04_One.l0.eq_2 ..) ?_
    obtain rfl : i = d := by omega
    have e : ¬ (i : Int) < (i : Int) := by omega
    simp only [if_neg e]
    exact Ev.now _
  | r + 1, i, h => by
    refine Ev.step (fun k => stackyardref04_One.l0.eq_2 ..) ?_
    have e : (i : Int) < (d : Int) := by omega
    have e0 : (0 : Int) ≤ (i : Int) := by omega
    have e1 : ((List.range i).map own1).length < 5864062014805 := by simp; omega
    simp only [if_pos e, wrapu i (by omega), if_pos e0, if_pos e1, wrap_succ i (by omega)]
    have := refOne_l0 d hd r (i + 1) (by omega)
    rw [ones_succ] at this
    exact this
theorem refOne_ev (a : Int) : Ev (fun k => stackyardref04_One.f k a) (oneV a) := by
  unfold stackyardref04_One.f oneV
  simp only [refDim_eq, Option.bind_some]
  by_cases h : dimsV a = 0
  · obtain ⟨d, rfl, hd⟩ := dimsV_zero h
    simp only [if_pos h, Int.toNat_natCast]
    have := refOne_l0 d hd d 0 (by omega)
    simpa using this
  · simp only [if_neg h]; exact Ev.now _
def putV (a at_ : Int) (c : S34) : List S34 × Int := if dimsV a = 0 then (if at_ < 0 then ([], 5) else if at_ ≥ a then ([], 5) else ((ones a.toNat).set at_.toNat c, 0)) else ([], dimsV a)
theorem put_ev (a at_ : Int) (c0 c1 c2 : Int) : Ev (fun k => stackyardref04_put.f k a at_ c0 c1 c2) (putV a at_ ⟨c0, c1, c2⟩) := by
  refine Ev.bind (refOne_ev a) ?_
  unfold oneV putV
  by_cases h : dimsV a = 0
  · obtain ⟨d, rfl, hd⟩ := dimsV_zero h
    simp only [if_pos h, if_true, Int.toNat_natCast]
    by_cases h1 : at_ < 0
    · simp only [if_pos h1]; exact Ev.now _
    · by_cases h2 : at_ ≥ (d : Int)
      · simp only [if_neg h1, if_pos h2]; exact Ev.now _
      · have h3 : 0 ≤ at_ := by omega
        have h4 : at_ < ((ones d).length : Int) := by rw [ones_len]; omega
        simp only [if_neg h1, if_neg h2, if_pos h3, if_pos h4]; exact Ev.now _
  · simp only [if_neg h]; exact Ev.now _
def inside (d : Nat) (l : List Int) : Bool := l.all fun z => decide (0 ≤ z ∧ z < d)
theorem withSet_l0 (d : Nat) (hd : d ≤ 64) (a1 : Int) (h1 : 0 ≤ a1 ∧ a1 < d) (p : Option (Int × Int × Int)) (c : S34) (y : List Int) (hy : y.length < 9223372036854775807) (hp : inside d y = true → p = some (c.f0, c.f1, c.f2)) :
    ∀ (r i : Nat), i + r = y.length → inside d (y.take i) = true → Ev (fun k => cells_with_cells_Set_1.l0 k (d : Int) a1 p y (y.length : Int) (i : Int)) (if inside d (y.drop i) = true then ((ones d).set a1.toNat c, 0) else ([], 5))
  | 0, i, h, ht => by
    refine Ev.step (fun k => cells_with_cells_Set_1.l0.eq_2 ..) ?_
    have e : ¬ (i : Int) < (y.length : Int) := by omega
    rw [List.drop_eq_nil_of_le (by omega)]
    rw [List.take_of_length_le (by omega)] at ht
    simp only [if_neg e, hp ht]
    refine Ev.bind (one_ev d hd) ?_
    have e0 : 0 ≤ a1 := h1.1
    have e1 : a1 < ((ones d).length : Int) := by rw [ones_len]; exact h1.2
    simp only [Option.bind_some, if_pos e0, if_pos e1]
    exact Ev.now _
  | r + 1, i, h, ht => by
    refine Ev.step (fun k => cells_with_cells_Set_1.l0.eq_2 ..) ?_
    have hi : i < y.length := by omega
    have e : (i : Int) < (y.length : Int) := by omega
    have e0 : (0 : Int) ≤ (i : Int) := by omega
    simp only [if_pos e, if_pos e0, wrap_succ i (by omega)]
    rw [rd_cons y i hi]
    by_cases b1 : rd y (i : Int) < 0
    · have : inside d (rd y (i : Int) :: y.drop (i + 1)) = false := by
        simp only [inside, List.all_cons, decide_eq_false (show ¬ (0 ≤ rd y (i : Int) ∧ rd y (i : Int) < (d : Int)) by omega), Bool.false_and]
      simp only [if_pos b1, this, Bool.false_eq_true, if_false]
      exact Ev.now _
    · by_cases b2 : rd y (i : Int) ≥ (d : Int)
      · have : inside d (rd y (i : Int) :: y.drop (i + 1)) = false := by
          simp only [inside, List.all_cons, decide_eq_false (show ¬ (0 ≤ rd y (i : Int) ∧ rd y (i : Int) < (d : Int)) by omega), Bool.false_and]
        simp only [if_neg b1, if_pos b2, this, Bool.false_eq_true, if_false]
        exact Ev.now _
      · have hz : decide (0 ≤ rd y (i : Int) ∧ rd y (i : Int) < (d : Int)) = true := decide_eq_true (by omega)
        have : inside d (rd y (i : Int) :: y.drop (i + 1)) = inside d (y.drop (i + 1)) := by
          simp only [inside, List.all_cons, hz, Bool.true_and]
        simp only [if_neg b1, if_neg b2, this]
        refine withSet_l0 d hd a1 h1 p c y hy hp r (i + 1) (by omega) ?_
        have ht2 : y.take (i + 1) = y.take i ++ [rd y (i : Int)] := by
          rw [List.take_succ_eq_append_getElem hi]
          simp [rd, List.getD_eq_getElem?_getD, List.getElem?_eq_getElem hi]
        rw [ht2]
        simp only [inside, List.all_append, List.all_cons, List.all_nil, hz, Bool.and_true] at ht ⊢
        exact ht
theorem withSet_bad (d : Nat) (a1 : Int) (p : Option (Int × Int × Int)) (y : List Int) (hy : y.length < 9223372036854775807) :
    ∀ (r i : Nat), i + r = y.length → inside d (y.drop i) = false → Ev (fun k => cells_with_cells_Set_1.l0 k (d : Int) a1 p y (y.length : Int) (i : Int)) ([], 5)
  | 0, i, h, ht => by
    rw [List.drop_eq_nil_of_le (by omega)] at ht
    cases ht
  | r + 1, i, h, ht => by
    refine Ev.step (fun k => cells_with_cells_Set_1.l0.eq_2 ..) ?_
    have hi : i < y.length := by omega
    have e : (i : Int) < (y.length : Int) := by omega
    have e0 : (0 : Int) ≤ (i : Int) := by omega
    simp only [if_pos e, if_pos e0, wrap_succ i (by omega)]
    rw [rd_cons y i hi] at ht
    by_cases b1 : rd y (i : Int) < 0
    · simp only [if_pos b1]; exact Ev.now _
    · by_cases b2 : rd y (i : Int) ≥ (d : Int)
      · simp only [if_neg b1, if_pos b2]; exact Ev.now _
      · simp only [if_neg b1, if_neg b2]
        refine withSet_bad d a1 p y hy r (i + 1) (by omega) ?_
        have hz : decide (0 ≤ rd y (i : Int) ∧ rd y (i : Int) < (d : Int)) = true := decide_eq_true (by omega)
        simpa only [inside, List.all_cons, hz, Bool.true_and] using ht
theorem withSet_ev (a a1 : Int) (p : Option (Int × Int × Int)) (c : S34) (l : List Int) (hl : l.length < 17592186044416) (hp : dimsV a = 0 → inside a.toNat (l ++ [a1]) = true → p = some (c.f0, c.f1, c.f2)) :
    Ev (fun k => cells_with_cells_Set_1.f k a a1 p l) (if dimsV a = 0 then (if inside a.toNat (l ++ [a1]) = true then ((ones a.toNat).set a1.toNat c, 0) else ([], 5)) else ([], dimsV a)) := by
  unfold cells_with_cells_Set_1.f
  simp only [dims_eq, Option.bind_some]
  by_cases h : dimsV a = 0
  · obtain ⟨d, rfl, hd⟩ := dimsV_zero h
    simp only [if_pos h, if_pos hl, Int.toNat_natCast]
    rw [Int.toNat_natCast] at hp
    have hlen : (l ++ [a1]).length < 9223372036854775807 := by simp; omega
    by_cases hi : inside d (l ++ [a1]) = true
    · have h1 : 0 ≤ a1 ∧ a1 < (d : Int) := of_decide_eq_true (List.all_eq_true.1 hi a1 (by simp))
      have := withSet_l0 d hd a1 h1 p c (l ++ [a1]) hlen (hp h) (l ++ [a1]).length 0 (by omega) rfl
      rw [List.drop_zero] at this
      exact this
    · have hi' : inside d (l ++ [a1]) = false := by simpa using hi
      have := withSet_bad d a1 p (l ++ [a1]) hlen (l ++ [a1]).length 0 (by omega) (by rw [List.drop_zero]; exact hi')
      simp only [if_neg hi]
      exact this
  · simp only [if_neg h]; exact Ev.now _
theorem withCopy_l0 (d : Nat) (hd : d ≤ 64) (a1 : Int) (h1 : 0 ≤ a1 ∧ a1 < d) (p : Option (Int × Int × Int)) (c : S34) (y : List Int) (hy : y.length < 9223372036854775807) (hp : inside d y = true → p = some (c.f0, c.f1, c.f2)) :
    ∀ (r i : Nat), i + r = y.length → inside d (y.take i) = true → Ev (fun k => cells_with_cells_Copy_1.l0 k (d : Int) a1 p y (y.length : Int) (i : Int)) (if inside d (y.drop i) = true then ((ones d).set a1.toNat c, 0) else ([], 5))
  | 0, i, h, ht => by
    refine Ev.step (fun k => cells_with_cells_Copy_1.l0.eq_2 ..) ?_
    have e : ¬ (i : Int) < (y.length : Int) := by omega
    rw [List.drop_eq_nil_of_le (by omega)]
    rw [List.take_of_length_le (by omega)] at ht
    simp only [if_neg e, hp ht]
    refine Ev.bind (one_ev d hd) ?_
    have e0 : 0 ≤ a1 := h1.1
    have e1 : a1 < ((ones d).length : Int) := by rw [ones_len]; exact h1.2
    simp only [Option.bind_some, if_pos e0, if_pos e1]
    exact Ev.now _
  | r + 1, i, h, ht => by
    refine Ev.step (fun k => cells_with_cells_Copy_1.l0.eq_2 ..) ?_
    have hi : i < y.length := by omega
    have e : (i : Int) < (y.length : Int) := by omega
    have e0 : (0 : Int) ≤ (i : Int) := by omega
    simp only [if_pos e, if_pos e0, wrap_succ i (by omega)]
    rw [rd_cons y i hi]
    by_cases b1 : rd y (i : Int) < 0
    · have : inside d (rd y (i : Int) :: y.drop (i + 1)) = false := by
        simp only [inside, List.all_cons, decide_eq_false (show ¬ (0 ≤ rd y (i : Int) ∧ rd y (i : Int) < (d : Int)) by omega), Bool.false_and]
      simp only [if_pos b1, this, Bool.false_eq_true, if_false]
      exact Ev.now _
    · by_cases b2 : rd y (i : Int) ≥ (d : Int)
      · have : inside d (rd y (i : Int) :: y.drop (i + 1)) = false := by
          simp only [inside, List.all_cons, decide_eq_false (show ¬ (0 ≤ rd y (i : Int) ∧ rd y (i : Int) < (d : Int)) by omega), Bool.false_and]
        simp only [if_neg b1, if_pos b2, this, Bool.false_eq_true, if_false]
        exact Ev.now _
      · have hz : decide (0 ≤ rd y (i : Int) ∧ rd y (i : Int) < (d : Int)) = true := decide_eq_true (by omega)
        have : inside d (rd y (i : Int) :: y.drop (i + 1)) = inside d (y.drop (i + 1)) := by
          simp only [inside, List.all_cons, hz, Bool.true_and]
        simp only [if_neg b1, if_neg b2, this]
        refine withCopy_l0 d hd a1 h1 p c y hy hp r (i + 1) (by omega) ?_
        have ht2 : y.take (i + 1) = y.take i ++ [rd y (i : Int)] := by
          rw [List.take_succ_eq_append_getElem hi]
          simp [rd, List.getD_eq_getElem?_getD, List.getElem?_eq_getElem hi]
        rw [ht2]
        simp only [inside, List.all_append, List.all_cons, List.all_nil, hz, Bool.and_true] at ht ⊢
        exact ht
theorem withCopy_bad (d : Nat) (a1 : Int) (p : Option (Int × Int × Int)) (y : List Int) (hy : y.length < 9223372036854775807) :
    ∀ (r i : Nat), i + r = y.length → inside d (y.drop i) = false → Ev (fun k => cells_with_cells_Copy_1.l0 k (d : Int) a1 p y (y.length : Int) (i : Int)) ([], 5)
  | 0, i, h, ht => by
    rw [List.drop_eq_nil_of_le (by omega)] at ht
    cases ht
  | r + 1, i, h, ht => by
    refine Ev.step (fun k => cells_with_cells_Copy_1.l0.eq_2 ..) ?_
    have hi : i < y.length := by omega
    have e : (i : Int) < (y.length : Int) := by omega
    have e0 : (0 : Int) ≤ (i : Int) := by omega
    simp only [if_pos e, if_pos e0, wrap_succ i (by omega)]
    rw [rd_cons y i hi] at ht
    by_cases b1 : rd y (i : Int) < 0
    · simp only [if_pos b1]; exact Ev.now _
    · by_cases b2 : rd y (i : Int) ≥ (d : Int)
      · simp only [if_neg b1, if_pos b2]; exact Ev.now _
      · simp only [if_neg b1, if_neg b2]
        refine withCopy_bad d a1 p y hy r (i + 1) (by omega) ?_
        have hz : decide (0 ≤ rd y (i : Int) ∧ rd y (i : Int) < (d : Int)) = true := decide_eq_true (by omega)
        simpa only [inside, List.all_cons, hz, Bool.true_and] using ht
theorem withCopy_ev (a a1 : Int) (p : Option (Int × Int × Int)) (c : S34) (l : List Int) (hl : l.length < 17592186044416) (hp : dimsV a = 0 → inside a.toNat (l ++ [a1]) = true → p = some (c.f0, c.f1, c.f2)) :
    Ev (fun k => cells_with_cells_Copy_1.f k a a1 p l) (if dimsV a = 0 then (if inside a.toNat (l ++ [a1]) = true then ((ones a.toNat).set a1.toNat c, 0) else ([], 5)) else ([], dimsV a)) := by
  unfold cells_with_cells_Copy_1.f
  simp only [dims_eq, Option.bind_some]
  by_cases h : dimsV a = 0
  · obtain ⟨d, rfl, hd⟩ := dimsV_zero h
    simp only [if_pos h, if_pos hl, Int.toNat_natCast]
    rw [Int.toNat_natCast] at hp
    have hlen : (l ++ [a1]).length < 9223372036854775807 := by simp; omega
    by_cases hi : inside d (l ++ [a1]) = true
    · have h1 : 0 ≤ a1 ∧ a1 < (d : Int) := of_decide_eq_true (List.all_eq_true.1 hi a1 (by simp))
      have := withCopy_l0 d hd a1 h1 p c (l ++ [a1]) hlen (hp h) (l ++ [a1]).length 0 (by omega) rfl
      rw [List.drop_zero] at this
      exact this
    · have hi' : inside d (l ++ [a1]) = false := by simpa using hi
      have := withCopy_bad d a1 p (l ++ [a1]) hlen (l ++ [a1]).length 0 (by omega) (by rw [List.drop_zero]; exact hi')
      simp only [if_neg hi]
      exact this
  · simp only [if_neg h]; exact Ev.now _
theorem withAny_l0 (d : Nat) (hd : d ≤ 64) (a1 : Int) (h1 : 0 ≤ a1 ∧ a1 < d) (p : Option (Int × Int × Int)) (c : S34) (y : List Int) (hy : y.length < 9223372036854775807) (hp : inside d y = true → p = some (c.f0, c.f1, c.f2)) :
    ∀ (r i : Nat), i + r = y.length → inside d (y.take i) = true → Ev (fun k => cells_with_cells_Any_1.l0 k (d : Int) a1 p y (y.length : Int) (i : Int)) (if inside d (y.drop i) = true then ((ones d).set a1.toNat c, 0) else ([], 5))
  | 0, i, h, ht => by
    refine Ev.step (fun k => cells_with_cells_Any_1.l0.eq_2 ..) ?_
    have e : ¬ (i : Int) < (y.length : Int) := by omega
    rw [List.drop_eq_nil_of_le (by omega)]
    rw [List.take_of_length_le (by omega)] at ht
    simp only [if_neg e, hp ht]
    refine Ev.bind (one_ev d hd) ?_
    have e0 : 0 ≤ a1 := h1.1
    have e1 : a1 < ((ones d).length : Int) := by rw [ones_len]; exact h1.2
    simp only [Option.bind_some, if_pos e0, if_pos e1]
    exact Ev.now _
  | r + 1, i, h, ht => by
    refine Ev.step (fun k => cells_with_cells_Any_1.l0.eq_2 ..) ?_
    have hi : i < y.length := by omega
    have e : (i : Int) < (y.length : Int) := by omega
    have e0 : (0 : Int) ≤ (i : Int) := by omega
    simp only [if_pos e, if_pos e0, wrap_succ i (by omega)]
    rw [rd_cons y i hi]
    by_cases b1 : rd y (i : Int) < 0
    · have : inside d (rd y (i : Int) :: y.drop (i + 1)) = false := by
        simp only [inside, List.all_cons, decide_eq_false (show ¬ (0 ≤ rd y (i : Int) ∧ rd y (i : Int) < (d : Int)) by omega), Bool.false_and]
      simp only [if_pos b1, this, Bool.false_eq_true, if_false]
      exact Ev.now _
    · by_cases b2 : rd y (i : Int) ≥ (d : Int)
      · have : inside d (rd y (i : Int) :: y.drop (i + 1)) = false := by
          simp only [inside, List.all_cons, decide_eq_false (show ¬ (0 ≤ rd y (i : Int) ∧ rd y (i : Int) < (d : Int)) by omega), Bool.false_and]
        simp only [if_neg b1, if_pos b2, this, Bool.false_eq_true, if_false]
        exact Ev.now _
      · have hz : decide (0 ≤ rd y (i : Int) ∧ rd y (i : Int) < (d : Int)) = true := decide_eq_true (by omega)
        have : inside d (rd y (i : Int) :: y.drop (i + 1)) = inside d (y.drop (i + 1)) := by
          simp only [inside, List.all_cons, hz, Bool.true_and]
        simp only [if_neg b1, if_neg b2, this]
        refine withAny_l0 d hd a1 h1 p c y hy hp r (i + 1) (by omega) ?_
        have ht2 : y.take (i + 1) = y.take i ++ [rd y (i : Int)] := by
          rw [List.take_succ_eq_append_getElem hi]
          simp [rd, List.getD_eq_getElem?_getD, List.getElem?_eq_getElem hi]
        rw [ht2]
        simp only [inside, List.all_append, List.all_cons, List.all_nil, hz, Bool.and_true] at ht ⊢
        exact ht
theorem withAny_bad (d : Nat) (a1 : Int) (p : Option (Int × Int × Int)) (y : List Int) (hy : y.length < 9223372036854775807) :
    ∀ (r i : Nat), i + r = y.length → inside d (y.drop i) = false → Ev (fun k => cells_with_cells_Any_1.l0 k (d : Int) a1 p y (y.length : Int) (i : Int)) ([], 5)
  | 0, i, h, ht => by
    rw [List.drop_eq_nil_of_le (by omega)] at ht
    cases ht
  | r + 1, i, h, ht => by
    refine Ev.step (fun k => cells_with_cells_Any_1.l0.eq_2 ..) ?_
    have hi : i < y.length := by omega
    have e : (i : Int) < (y.length : Int) := by omega
    have e0 : (0 : Int) ≤ (i : Int) := by omega
    simp only [if_pos e, if_pos e0, wrap_succ i (by omega)]
    rw [rd_cons y i hi] at ht
    by_cases b1 : rd y (i : Int) < 0
    · simp only [if_pos b1]; exact Ev.now _
    · by_cases b2 : rd y (i : Int) ≥ (d : Int)
      · simp only [if_neg b1, if_pos b2]; exact Ev.now _
      · simp only [if_neg b1, if_neg b2]
        refine withAny_bad d a1 p y hy r (i + 1) (by omega) ?_
        have hz : decide (0 ≤ rd y (i : Int) ∧ rd y (i : Int) < (d : Int)) = true := decide_eq_true (by omega)
        simpa only [inside, List.all_cons, hz, Bool.true_and] using ht
theorem withAny_ev (a a1 : Int) (p : Option (Int × Int × Int)) (c : S34) (l : List Int) (hl : l.length < 17592186044416) (hp : dimsV a = 0 → inside a.toNat (l ++ [a1]) = true → p = some (c.f0, c.f1, c.f2)) :
    Ev (fun k => cells_with_cells_Any_1.f k a a1 p l) (if dimsV a = 0 then (if inside a.toNat (l ++ [a1]) = true then ((ones a.toNat).set a1.toNat c, 0) else ([], 5)) else ([], dimsV a)) := by
  unfold cells_with_cells_Any_1.f
  simp only [dims_eq, Option.bind_some]
  by_cases h : dimsV a = 0
  · obtain ⟨d, rfl, hd⟩ := dimsV_zero h
    simp only [if_pos h, if_pos hl, Int.toNat_natCast]
    rw [Int.toNat_natCast] at hp
    have hlen : (l ++ [a1]).length < 9223372036854775807 := by simp; omega
    by_cases hi : inside d (l ++ [a1]) = true
    · have h1 : 0 ≤ a1 ∧ a1 < (d : Int) := of_decide_eq_true (List.all_eq_true.1 hi a1 (by simp))
      have := withAny_l0 d hd a1 h1 p c (l ++ [a1]) hlen (hp h) (l ++ [a1]).length 0 (by omega) rfl
      rw [List.drop_zero] at this
      exact this
    · have hi' : inside d (l ++ [a1]) = false := by simpa using hi
      have := withAny_bad d a1 p (l ++ [a1]) hlen (l ++ [a1]).length 0 (by omega) (by rw [List.drop_zero]; exact hi')
      simp only [if_neg hi]
      exact this
  · simp only [if_neg h]; exact Ev.now _
theorem inside_one (d : Nat) (a : Int) : inside d [a] = decide (0 ≤ a ∧ a < d) := by simp [inside]
theorem Set_ev (a a1 v : Int) : Ev (fun k => cells_Set.f k a a1 v) (putV a a1 ⟨0, 1, v⟩) := by
  have := withSet_ev a a1 (some (0, 1, v)) ⟨0, 1, v⟩ [] (by simp) (fun _ _ => rfl)
  rw [List.nil_append] at this
  unfold putV
  by_cases h : dimsV a = 0
  · obtain ⟨d, rfl, hd⟩ := dimsV_zero h
    rw [Int.toNat_natCast, inside_one] at this
    simp only [if_pos h, decide_eq_true_eq, Int.toNat_natCast] at this ⊢
    by_cases h1 : a1 < 0
    · rw [if_neg (by omega)] at this; rw [if_pos h1]; exact this
    · by_cases h2 : a1 ≥ (d : Int)
      · rw [if_neg (by omega)] at this; rw [if_neg h1, if_pos h2]; exact this
      · rw [if_pos (by omega)] at this; rw [if_neg h1, if_neg h2]; exact this
  · simp only [if_neg h] at this ⊢; exact this
theorem Any_ev (a a1 : Int) : Ev (fun k => cells_Any.f k a a1) (putV a a1 ⟨0, 2, 0⟩) := by
  have := withAny_ev a a1 cells_Any_1.f ⟨0, 2, 0⟩ [] (by simp) (fun _ _ => rfl)
  rw [List.nil_append] at this
  unfold putV
  by_cases h : dimsV a = 0
  · obtain ⟨d, rfl, hd⟩ := dimsV_zero h
    rw [Int.toNat_natCast, inside_one] at this
    simp only [if_pos h, decide_eq_true_eq, Int.toNat_natCast] at this ⊢
    by_cases h1 : a1 < 0
    · rw [if_neg (by omega)] at this; rw [if_pos h1]; exact this
    · by_cases h2 : a1 ≥ (d : Int)
      · rw [if_neg (by omega)] at this; rw [if_neg h1, if_pos h2]; exact this
      · rw [if_pos (by omega)] at this; rw [if_neg h1, if_neg h2]; exact this
  · simp only [if_neg h] at this ⊢; exact this
def copyV (a a1 a2 : Int) : List S34 × Int := if dimsV a = 0 then (if a2 < 0 then ([], 5) else if a2 ≥ a then ([], 5) else putV a a1 ⟨shl .u64 1 a2, 0, 0⟩) else ([], dimsV a)
theorem Copy_ev (a a1 a2 : Int) : Ev (fun k => cells_Copy.f k a a1 a2) (copyV a a1 a2) := by
  have := withCopy_ev a a1 (cells_Copy.p a2) ⟨shl .u64 1 a2, 0, 0⟩ [a2] (by simp) (fun h hi => by
    have h2 : 0 ≤ a2 ∧ a2 < (a.toNat : Int) := of_decide_eq_true (List.all_eq_true.1 hi a2 (by simp))
    unfold cells_Copy.p
    rw [if_pos h2.1]
    simp [shl, IntKind.bits])
  unfold copyV putV
  by_cases h : dimsV a = 0
  · obtain ⟨d, rfl, hd⟩ := dimsV_zero h
    have e : inside d ([a2] ++ [a1]) = (decide (0 ≤ a2 ∧ a2 < d) && decide (0 ≤ a1 ∧ a1 < d)) := by simp [inside]
    rw [Int.toNat_natCast, e] at this
    simp only [if_pos h, Bool.and_eq_true, decide_eq_true_eq, Int.toNat_natCast] at this ⊢
    by_cases h3 : a2 < 0
    · rw [if_neg (by omega)] at this; rw [if_pos h3]; exact this
    · by_cases h4 : a2 ≥ (d : Int)
      · rw [if_neg (by omega)] at this; rw [if_neg h3, if_pos h4]; exact this
      · rw [if_neg h3, if_neg h4]
        by_cases h1 : a1 < 0
        · rw [if_neg (by omega)] at this; rw [if_pos h1]; exact this
        · by_cases h2 : a1 ≥ (d : Int)
          · rw [if_neg (by omega)] at this; rw [if_neg h1, if_pos h2]; exact this
          · rw [if_pos (by omega)] at this; rw [if_neg h1, if_neg h2]; exact this
  · simp only [if_neg h] at this ⊢; exact this
theorem refCopy_ev (a a1 a2 : Int) : Ev (fun k => stackyardref04_Copy.f k a a1 a2) (copyV a a1 a2) := by
  unfold stackyardref04_Copy.f copyV
  simp only [refDim_eq, Option.bind_some]
  by_cases h : dimsV a = 0
  · obtain ⟨d, rfl, hd⟩ := dimsV_zero h
    simp only [if_pos h]
    by_cases h3 : a2 < 0
    · simp only [if_pos h3]; exact Ev.now _
    · by_cases h4 : a2 ≥ (d : Int)
      · simp only [if_neg h3, if_pos h4]; exact Ev.now _
      · obtain ⟨m, rfl⟩ := Int.eq_ofNat_of_zero_le (show 0 ≤ a2 by omega)
        have e0 : (0 : Int) ≤ (m : Int) := by omega
        simp only [if_neg h3, if_neg h4, wrapu m (by omega), if_pos e0]
        exact Ev.bind (put_ev _ _ _ _ _) (Ev.now _)
  · simp only [if_neg h]; exact Ev.now _
theorem putV_len (a a1 : Int) (c : S34) : (putV a a1 c).1.length < 9223372036854775807 := by
  unfold putV
  by_cases h : dimsV a = 0
  · obtain ⟨d, rfl, hd⟩ := dimsV_zero h
    rw [if_pos h]
    repeat' split
    · simp
    · simp
    · simp only [List.length_set, ones_len, Int.toNat_natCast]; omega
  · rw [if_neg h]; simp
theorem copyV_len (a a1 a2 : Int) : (copyV a a1 a2).1.length < 9223372036854775807 := by
  unfold copyV
  repeat' split
  · simp
  · simp
  · exact putV_len _ _ _
  · simp
theorem oneV_len (a : Int) : (oneV a).1.length < 9223372036854775807 := by
  unfold oneV
  by_cases h : dimsV a = 0
  · obtain ⟨d, rfl, hd⟩ := dimsV_zero h
    rw [if_pos h]
    simp only [ones_len, Int.toNat_natCast]; omega
  · rw [if_neg h]; simp
theorem same_self (l : List S34) (h : l.length < 9223372036854775807) : Ev (fun k => stackyardref04_Same.f k l l) true := by
  have := same_ev l l h
  rw [decide_eq_true rfl] at this
  exact this
theorem heights (a : Int) : ∃ v, cells_Height.f a = some v ∧ stackyardref04_Height.f a = some v := by
  unfold cells_Height.f stackyardref04_Height.f
  simp only [dims_eq, refDim_eq, Option.bind_some]
  by_cases h : dimsV a = 0
  · simp only [if_pos h]; exact ⟨_, rfl, rfl⟩
  · simp only [if_neg h]; exact ⟨_, rfl, rfl⟩
theorem CellsMakes (a a1 a2 v : Int) : Ev (fun k => stackyardlaw04_CellsMakes.f k a a1 a2 v) true := by
  obtain ⟨hv, h1, h2⟩ := heights a
  refine Ev.bind (One_ev a) (Ev.bind (refOne_ev a) ?_)
  simp only [h1, h2, Option.bind_some]
  refine Ev.bind (same_self _ (oneV_len a)) ?_
  simp only [if_true]
  refine Ev.bind awake_ev ?_
  refine Ev.step (fun k => stackyardlaw04_CellsMakes.j0.eq_2 ..) ?_
  simp only [Bool.not_true, Bool.false_eq_true, if_false]
  refine Ev.bind (Set_ev a a1 v) (Ev.bind (a := putV a a1 ⟨0, 1, v⟩) (Ev.bind (put_ev _ _ _ _ _) (Ev.now _)) (Ev.bind (Copy_ev a a1 a2) (Ev.bind (refCopy_ev a a1 a2) (Ev.bind (Any_ev a a1) (Ev.bind (a := putV a a1 ⟨0, 2, 0⟩) (Ev.bind (put_ev _ _ _ _ _) (Ev.now _)) ?_)))))
  refine Ev.bind (same_self _ (putV_len _ _ _)) ?_
  simp only [if_true]
  refine Ev.bind (same_self _ (copyV_len _ _ _)) ?_
  simp only [if_true]
  refine Ev.bind (same_self _ (putV_len _ _ _)) ?_
  simp only [if_true, beq_self_eq_true]
  exact Ev.now _
end Go.Proofs.YtkfpgniicfanoaaDoor.Pure
