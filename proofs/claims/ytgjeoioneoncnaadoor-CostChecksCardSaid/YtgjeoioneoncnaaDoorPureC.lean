/-
  The statement CostChecks over the printed functions.
-/
import Derived.Test.YtgjeoioneoncnaaDoorPureB
import Derived.Test.YtgjeoioneoncnaaDoorPx6
namespace Go.Proofs.YtgjeoioneoncnaaDoor.Pure
open Go.RowKit Go.Proofs.YtgjeoioneoncnaaDoor.P Go.Proofs.YtgjeoioneoncnaaDoor.Plain Go.Proofs.YtgjeoioneoncnaaDoorW.PrintWords Go.Proofs.YtgjeoioneoncnaaDoorW.PrintLast Go.Proofs.YtgjeoioneoncnaaDoorW.PrintMore
set_option linter.unusedVariables false
set_option linter.unusedSimpArgs false

theorem refAm_ev (a x y : Int) : Ev (fun k => stackyardref02_AtMost.f k a x y) (amV a x y) := by
  refine Ev.bind (refCheck_ev a [x, y] (by simp)) ?_
  unfold amV
  by_cases h : chk a [x, y] = 0
  · simp only [h, if_true, two_eq, Option.bind_some]
    exact Ev.now _
  · simp only [if_neg h]
    exact Ev.now _
theorem refHeight_ev (a : Int) : Ev (fun k => stackyardref02_Height.f k a) (heightV a) := by
  refine Ev.bind (refCheck_ev a [] (by simp)) ?_
  rw [chk_nil]
  unfold heightV
  by_cases h : 0 ≤ a ∧ a ≤ 1048576
  · have hw : wrap64 (a + 1) = a + 1 := by unfold wrap64; omega
    simp only [if_pos h, if_true, hw]
    exact Ev.now _
  · simp only [if_neg h]
    exact Ev.now _
theorem CostChecks : stackyardlaw02_CostChecks.Pure := by
  intro a x y _ _ _
  refine Ev.rounds (Ev.bind (am_ev a x y) (Ev.bind (refAm_ev a x y) (Ev.bind (height_ev a) (Ev.bind (refHeight_ev a) ?_))))
  refine Ev.bind (Ev.bind (checks_ev a [x] (by simp)) (Ev.now _)) (Ev.bind (refCheck_ev a [x] (by simp)) ?_)
  simp only [if_true, beq_self_eq_true]
  exact Ev.bind awake_ev (Ev.now _)
end Go.Proofs.YtgjeoioneoncnaaDoor.Pure
