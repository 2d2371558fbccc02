/- CellD, for the statement CellsAlgebra: what it needs, no more. -/
import Derived.Test.YtkfpgniicfanoaaDoorZCellsAlgebraCellC
namespace Go.Proofs.YtkfpgniicfanoaaDoor.CellA
end Go.Proofs.YtkfpgniicfanoaaDoor.CellA
namespace Go.Proofs.YtkfpgniicfanoaaDoor.CellB
end Go.Proofs.YtkfpgniicfanoaaDoor.CellB
namespace Go.Proofs.YtkfpgniicfanoaaDoor.P
end Go.Proofs.YtkfpgniicfanoaaDoor.P
namespace Go.Proofs.YtkfpgniicfanoaaDoor.Plain
end Go.Proofs.YtkfpgniicfanoaaDoor.Plain
namespace Go.Proofs.YtkfpgniicfanoaaDoor.Pure
open Go.RowKit Go.Proofs.YtkfpgniicfanoaaDoor.P Go.Proofs.YtkfpgniicfanoaaDoor.Plain Go.Proofs.YtkfpgniicfanoaaDoor.CellA Go.Proofs.YtkfpgniicfanoaaDoor.CellB Go.Proofs.YtkfpgniicfanoaaDoorW.PrintWords Go.Proofs.YtkfpgniicfanoaaDoorW.PrintLast Go.Proofs.YtkfpgniicfanoaaDoorW.PrintMore
set_option linter.unusedVariables false
set_option linter.unusedSimpArgs false
def dimsV (a : Int) : Int := if a < 0 then 41 else if a > 64 then 41 else 0
theorem dims_eq (a : Int) : cells_dims.f a = some (dimsV a) := by unfold cells_dims.f dimsV; (repeat' split) <;> rfl
theorem dimsV_zero {a : Int} (h : dimsV a = 0) : ∃ d : Nat, a = d ∧ d ≤ 64 := by
  unfold dimsV at h
  by_cases h1 : a < 0
  · rw [if_pos h1] at h; cases h
  · by_cases h2 : a > 64
    · rw [if_neg h1, if_pos h2] at h; cases h
    · exact ⟨a.toNat, by omega, by omega⟩
theorem dimsV_nat {d : Nat} (h : d ≤ 64) : dimsV (d : Int) = 0 := by unfold dimsV; rw [if_neg (by omega), if_neg (by omega)]
def own1 (i : Nat) : S34 := ⟨shl .u64 1 (i : Int), 0, 0⟩
def ones (d : Nat) : List S34 := (List.range d).map own1
theorem ones_succ (i : Nat) : (List.range (i + 1)).map own1 = (List.range i).map own1 ++ [own1 i] := by rw [List.range_succ, List.map_append]; rfl
theorem one_l0 (d : Nat) (hd : d ≤ 64) : ∀ (r i : Nat), i + r = d → Ev (fun k => cells_one.l0 k ((List.range i).map own1 ++ List.replicate r z34) (d : Int) (i : Int)) (ones d)
  | 0, i, h => by
    refine Ev.step (fun k => cells_one.l0.eq_2 ..) ?_
    obtain rfl : i = d := by omega
    have e : ¬ (i : Int) < (i : Int) := by omega
    simp only [if_neg e, List.replicate_zero, List.append_nil]
    exact Ev.now _
  | r + 1, i, h => by
    refine Ev.step (fun k => cells_one.l0.eq_2 ..) ?_
    have hlen : ((List.range i).map own1).length = i := by simp
    have e : (i : Int) < (d : Int) := by omega
    have e0 : (0 : Int) ≤ (i : Int) := by omega
    have e1 : (i : Int) < ((((List.range i).map own1 ++ List.replicate (r + 1) z34).length : Nat) : Int) := by rw [List.length_append, hlen, List.length_replicate]; omega
    simp only [if_pos e, if_pos e0, if_pos e1, wrap_succ i (by omega)]
    have e2 : rd_T34 ((List.range i).map own1 ++ List.replicate (r + 1) z34) (i : Int) = z34 := by
      simp [rd_T34, List.getD_eq_getElem?_getD, List.getElem?_append_right, hlen, List.replicate_succ]
    rw [e2]
    have e3 : ((List.range i).map own1 ++ List.replicate (r + 1) z34).set (i : Int).toNat (⟨shl .u64 1 (i : Int), z34.f1, z34.f2⟩ : S34) = (List.range (i + 1)).map own1 ++ List.replicate r z34 := by
      rw [Int.toNat_natCast, List.set_append_right _ _ (by rw [hlen]; exact Nat.le_refl _), hlen, Nat.sub_self, List.replicate_succ, List.set_cons_zero, ones_succ, List.append_assoc]
      rfl
    rw [e3]
    exact one_l0 d hd r (i + 1) (by omega)
theorem one_ev (d : Nat) (hd : d ≤ 64) : Ev (fun k => cells_one.f k (d : Int)) (ones d) := by
  unfold cells_one.f
  have e0 : (0 : Int) ≤ (d : Int) := by omega
  have e1 : d ≤ 11728124029610 := by omega
  simp only [if_pos e0, Int.toNat_natCast, if_pos e1]
  have := one_l0 d hd d 0 (by omega)
  simpa using this
def oneV (a : Int) : List S34 × Int := if dimsV a = 0 then (ones a.toNat, 0) else ([], dimsV a)
theorem One_ev (a : Int) : Ev (fun k => cells_One.f k a) (oneV a) := by
  unfold cells_One.f oneV
  simp only [dims_eq, Option.bind_some]
  by_cases h : dimsV a = 0
  · obtain ⟨d, rfl, hd⟩ := dimsV_zero h
    simp only [if_pos h, Int.toNat_natCast]
    exact Ev.bind (one_ev d hd) (Ev.now _)
  · simp only [if_neg h]; exact Ev.now _
end Go.Proofs.YtkfpgniicfanoaaDoor.Pure
