/- CellB, for the statement CellsMakes: what it needs, no more. -/
import Derived.Test.YtkfpgniicfanoaaDoorZCellsMakesPx0
import Derived.Test.YtkfpgniicfanoaaDoorZCellsMakesPx1
import Derived.Test.YtkfpgniicfanoaaDoorZCellsMakesPx2
import Derived.Test.YtkfpgniicfanoaaDoorZCellsMakesPx3
import Derived.Test.YtkfpgniicfanoaaDoorZCellsMakesPx4
import Derived.Test.YtkfpgniicfanoaaDoorZCellsMakesPx7
import Derived.Test.YtkfpgniicfanoaaDoorZCellsMakesPx8
import Derived.Test.YtkfpgniicfanoaaDoorZCellsMakesPx9
import Derived.Test.YtkfpgniicfanoaaDoorZCellsMakesPx11
import Derived.Test.YtkfpgniicfanoaaDoorZCellsMakesPx12
import Derived.Test.YtkfpgniicfanoaaDoorZCellsMakesCellA
import Derived.Laws.BitsAllLaws
namespace Go.Proofs.YtkfpgniicfanoaaDoor.CellA
end Go.Proofs.YtkfpgniicfanoaaDoor.CellA
namespace Go.Proofs.YtkfpgniicfanoaaDoor.P
end Go.Proofs.YtkfpgniicfanoaaDoor.P
namespace Go.Proofs.YtkfpgniicfanoaaDoor.Plain
end Go.Proofs.YtkfpgniicfanoaaDoor.Plain
deriving instance DecidableEq for Go.Proofs.YtkfpgniicfanoaaDoor.P.S34
namespace Go.Proofs.YtkfpgniicfanoaaDoor.CellB
open Go.RowKit Go.Proofs.YtkfpgniicfanoaaDoor.P Go.Proofs.YtkfpgniicfanoaaDoor.Plain Go.Proofs.YtkfpgniicfanoaaDoor.CellA Go.Proofs.YtkfpgniicfanoaaDoorW.PrintWords Go.Proofs.YtkfpgniicfanoaaDoorW.PrintLast Go.Proofs.YtkfpgniicfanoaaDoorW.PrintMore
set_option linter.unusedVariables false
set_option linter.unusedSimpArgs false
theorem wrapu (i : Nat) (h : i < 18446744073709551616) : IntKind.u64.wrap (i : Int) = (i : Int) := by
  rw [IntKind.wrap_u64]; omega
/-- What every cell in memory is. -/
def fit (x : S34) : Prop := 0 ≤ x.f0 ∧ x.f0 < 18446744073709551616
theorem rdT_drop (l : List S34) (i : Nat) (h : i < l.length) : l.drop i = rd_T34 l (i : Int) :: l.drop (i + 1) := by
  rw [List.drop_eq_getElem_cons h]
  simp [rd_T34, List.getD_eq_getElem?_getD, List.getElem?_eq_getElem h]
def reads : Cl → Nat
  | .top => 0
  | .low m _ => m
theorem ne3 (x y : S34) : (!((x.f0) == (y.f0)) || (!((x.f1) == (y.f1)) || (!((x.f2) == (y.f2))))) = !decide (x = y) := by
  obtain ⟨a, b, c⟩ := x
  obtain ⟨d, e, f⟩ := y
  by_cases h : (⟨a, b, c⟩ : S34) = ⟨d, e, f⟩
  · have h' := h
    rw [S34.mk.injEq] at h'
    obtain ⟨rfl, rfl, rfl⟩ := h'
    simp
  · rw [decide_eq_false h]
    rw [S34.mk.injEq] at h
    by_cases h1 : a = d
    · by_cases h2 : b = e
      · by_cases h3 : c = f
        · exact absurd ⟨h1, h2, h3⟩ h
        · simp [h3]
      · simp [h2]
    · simp [h1]
theorem same_l0 (l m : List S34) (hlen : l.length = m.length) (hl : l.length < 9223372036854775807) : ∀ (r i : Nat), i + r = l.length → Ev (fun k => stackyardref04_Same.l0 k l m (i : Int)) (decide (l.drop i = m.drop i))
  | 0, i, h => by
    refine Ev.step (fun k => stackyardref04_Same.l0.eq_2 ..) ?_
    rw [List.drop_eq_nil_of_le (by omega), List.drop_eq_nil_of_le (by omega)]
    have e : ¬ (i : Int) < (l.length : Int) := by omega
    simp only [if_neg e]
    exact Ev.now _
  | r + 1, i, h => by
    refine Ev.step (fun k => stackyardref04_Same.l0.eq_2 ..) ?_
    have hi : i < l.length := by omega
    have e : (i : Int) < (l.length : Int) := by omega
    have e1 : (i : Int) < (m.length : Int) := by omega
    have e0 : (0 : Int) ≤ (i : Int) := by omega
    simp only [if_pos e, if_pos e0, if_pos e1, wrap_succ i (by omega), ne3]
    rw [rdT_drop l i hi, rdT_drop m i (by omega)]
    by_cases b : rd_T34 l (i : Int) = rd_T34 m (i : Int)
    · simp only [b, decide_true, Bool.not_true, Bool.false_eq_true, if_false, List.cons.injEq, true_and]
      exact same_l0 l m hlen hl r (i + 1) (by omega)
    · simp only [decide_eq_false b, Bool.not_false, if_true, List.cons.injEq, b, false_and, decide_false]
      exact Ev.now _
theorem same_ev (l m : List S34) (hl : l.length < 9223372036854775807) : Ev (fun k => stackyardref04_Same.f k l m) (decide (l = m)) := by
  unfold stackyardref04_Same.f
  by_cases h : l.length = m.length
  · simp only [if_pos (show ((l.length : Int) = (m.length : Int)) by omega)]
    have := same_l0 l m h hl l.length 0 (by omega)
    simpa using this
  · simp only [if_neg (show ¬ ((l.length : Int) = (m.length : Int)) by omega)]
    rw [decide_eq_false (fun e => h (by rw [e]))]
    exact Ev.now _
end Go.Proofs.YtkfpgniicfanoaaDoor.CellB
