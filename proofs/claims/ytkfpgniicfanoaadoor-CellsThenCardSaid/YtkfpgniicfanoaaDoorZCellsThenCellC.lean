/- CellC, for the statement CellsThen: what it needs, no more. -/
import Derived.Test.YtkfpgniicfanoaaDoorZCellsThenCellB
namespace Go.Proofs.YtkfpgniicfanoaaDoor.Pure
open Go.RowKit Go.Proofs.YtkfpgniicfanoaaDoor.P Go.Proofs.YtkfpgniicfanoaaDoor.Plain Go.Proofs.YtkfpgniicfanoaaDoor.CellA Go.Proofs.YtkfpgniicfanoaaDoor.CellB Go.Proofs.YtkfpgniicfanoaaDoorW.PrintWords Go.Proofs.YtkfpgniicfanoaaDoorW.PrintLast Go.Proofs.YtkfpgniicfanoaaDoorW.PrintMore
set_option linter.unusedVariables false
set_option linter.unusedSimpArgs false
theorem awake_ev : Ev (fun k => stackyardlaw04_awake.f k) true := by
  refine Ev.of stackyardlaw04_awake.mono (k := 200) ?_
  unfold stackyardlaw04_awake.f
  simp only [toList_eq]
  kernel_rfl
/-- What every list in memory is. -/
def Fits (l : List S34) : Prop := (∀ x ∈ l, fit x) ∧ l.length < 9223372036854775807
theorem CellsThen (a : Int) (l m : List S34) (hl : Fits l) (hm : Fits m) : Ev (fun k => stackyardlaw04_CellsThen.f k a l m) true := by
  rcases cases2 a l m hl.1 hm.1 with h | ⟨_, d, F, G, rfl, hF, hG, rfl, rfl⟩
  · refine Ev.bind (Then_bad hl.1 hl.2 hm.1 hm.2 h) (Ev.bind (refThen_bad hl.1 hm.1 h) (Ev.bind (same_ev _ _ (by simp)) ?_))
    simp only [decide_true, if_true]
    exact Ev.bind awake_ev (Ev.now _)
  · refine Ev.bind (Then_good hF hG) (Ev.bind (refThen_good hF hG) (Ev.bind (same_ev _ _ (good_len (good_map hF hG))) ?_))
    simp only [decide_true, if_true]
    exact Ev.bind awake_ev (Ev.now _)
end Go.Proofs.YtkfpgniicfanoaaDoor.Pure
