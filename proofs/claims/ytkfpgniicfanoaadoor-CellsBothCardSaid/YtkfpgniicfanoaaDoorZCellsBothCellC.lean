/- CellC, for the statement CellsBoth: what it needs, no more. -/
import Derived.Test.YtkfpgniicfanoaaDoorZCellsBothCellB
namespace Go.Proofs.YtkfpgniicfanoaaDoor.Pure
open Go.RowKit Go.Proofs.YtkfpgniicfanoaaDoor.P Go.Proofs.YtkfpgniicfanoaaDoor.Plain Go.Proofs.YtkfpgniicfanoaaDoor.CellA Go.Proofs.YtkfpgniicfanoaaDoor.CellB Go.Proofs.YtkfpgniicfanoaaDoorW.PrintWords Go.Proofs.YtkfpgniicfanoaaDoorW.PrintLast Go.Proofs.YtkfpgniicfanoaaDoorW.PrintMore
set_option linter.unusedVariables false
set_option linter.unusedSimpArgs false
theorem awake_ev : Ev (fun k => stackyardlaw04_awake.f k) true := by
  refine Ev.of stackyardlaw04_awake.mono (k := 200) ?_
  unfold stackyardlaw04_awake.f
  simp only [toList_eq]
  kernel_rfl
/-- What every list in memory is. -/
def Fits (l : List S34) : Prop := (∀ x ∈ l, fit x) ∧ l.length < 9223372036854775807
theorem Below_good {d : Nat} {F G : List Cl} (hF : GoodC d F) (hG : GoodC d G) : Ev (fun k => cells_Below.f k (d : Int) (F.map dec) (G.map dec)) (decide (List.zipWith J F G = G), 0) := by
  refine Ev.bind (Both_good hF hG) ?_
  simp only [if_true]
  refine Ev.bind (Same_ev _ _ (good_len (good_zip hF hG))) ?_
  have : decide ((List.zipWith J F G).map dec = G.map dec) = decide (List.zipWith J F G = G) := decide_eq_decide.2 ⟨decs_inj, fun h => by rw [h]⟩
  rw [this]
  exact Ev.now _
theorem Below_bad {a : Int} {l m : List S34} (hl : Fits l) (hm : Fits m) (h : chk2 a l m ≠ 0) : Ev (fun k => cells_Below.f k a l m) (false, chk2 a l m) := by
  refine Ev.bind (Both_bad hl.1 hl.2 hm.1 hm.2 h) ?_
  simp only [if_neg h]
  exact Ev.now _
theorem refBelow_good {d : Nat} {F G : List Cl} (hF : GoodC d F) (hG : GoodC d G) : Ev (fun k => stackyardref04_Below.f k (d : Int) (F.map dec) (G.map dec)) (decide (List.zipWith J F G = G), 0) := by
  refine Ev.bind (refBoth_good hF hG) ?_
  simp only [if_true]
  refine Ev.bind (same_ev _ _ (good_len (good_zip hF hG))) ?_
  have : decide ((List.zipWith J F G).map dec = G.map dec) = decide (List.zipWith J F G = G) := decide_eq_decide.2 ⟨decs_inj, fun h => by rw [h]⟩
  rw [this]
  exact Ev.now _
theorem refBelow_bad {a : Int} {l m : List S34} (hl : Fits l) (hm : Fits m) (h : chk2 a l m ≠ 0) : Ev (fun k => stackyardref04_Below.f k a l m) (false, chk2 a l m) := by
  refine Ev.bind (refBoth_bad hl.1 hm.1 h) ?_
  simp only [if_neg h]
  exact Ev.now _
theorem CellsBoth (a : Int) (l m : List S34) (hl : Fits l) (hm : Fits m) : Ev (fun k => stackyardlaw04_CellsBoth.f k a l m) true := by
  rcases cases2 a l m hl.1 hm.1 with h | ⟨_, d, F, G, rfl, hF, hG, rfl, rfl⟩
  · refine Ev.bind (Both_bad hl.1 hl.2 hm.1 hm.2 h) (Ev.bind (refBoth_bad hl.1 hm.1 h) (Ev.bind (Below_bad hl hm h) (Ev.bind (refBelow_bad hl hm h) (Ev.bind (same_ev _ _ (by simp)) ?_))))
    simp only [decide_true, beq_self_eq_true, if_true]
    exact Ev.bind awake_ev (Ev.now _)
  · refine Ev.bind (Both_good hF hG) (Ev.bind (refBoth_good hF hG) (Ev.bind (Below_good hF hG) (Ev.bind (refBelow_good hF hG) (Ev.bind (same_ev _ _ (good_len (good_zip hF hG))) ?_))))
    simp only [decide_true, beq_self_eq_true, if_true]
    exact Ev.bind awake_ev (Ev.now _)

end Go.Proofs.YtkfpgniicfanoaaDoor.Pure
