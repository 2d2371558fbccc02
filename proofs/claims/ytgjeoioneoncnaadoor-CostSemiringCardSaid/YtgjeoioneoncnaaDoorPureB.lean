/-
  The statements CostSemiring, CostOrder, CostRow, CostChecks over the printed functions: plain arithmetic of capped costs.
-/
import Derived.Test.YtgjeoioneoncnaaDoorPureA
namespace Go.Proofs.YtgjeoioneoncnaaDoor.Pure
open Go.RowKit Go.Proofs.YtgjeoioneoncnaaDoor.P Go.Proofs.YtgjeoioneoncnaaDoor.Plain Go.Proofs.YtgjeoioneoncnaaDoorW.PrintWords Go.Proofs.YtgjeoioneoncnaaDoorW.PrintLast Go.Proofs.YtgjeoioneoncnaaDoorW.PrintMore
set_option linter.unusedVariables false
set_option linter.unusedSimpArgs false

theorem lst_comm (x y : Int) : lst x y = lst y x := by unfold lst; omega
theorem lst_assoc (x y z : Int) : lst (lst x y) z = lst x (lst y z) := by unfold lst; omega
theorem S2_comm (a x y : Int) : S2 a x y = S2 a y x := by unfold S2; omega
theorem S2_assoc {a x y z : Int} (ha : 0 ≤ a) (hx : okc a x) (hy : okc a y) (hz : okc a z) : S2 a (S2 a x y) z = S2 a x (S2 a y z) := by unfold S2 okc at *; omega
theorem S2_over {a x y z : Int} (ha : 0 ≤ a) (hx : okc a x) (hy : okc a y) (hz : okc a z) : S2 a x (lst y z) = lst (S2 a x y) (S2 a x z) := by unfold S2 lst okc at *; omega
theorem lst_self (x : Int) : lst x x = x := by unfold lst; omega
theorem lst_none (x : Int) : lst x (-1) = x := by unfold lst; omega
theorem S2_none (a x : Int) : S2 a x (-1) = -1 := by unfold S2; omega
theorem S2_zero {a x : Int} (hx : okc a x) : S2 a x 0 = x := by unfold S2 okc at *; omega

theorem CostSemiring : stackyardlaw02_CostSemiring.Pure := by
  intro a x y z _ _ _ _
  by_cases hall : (0 ≤ a ∧ a ≤ 1048576) ∧ okc a x ∧ okc a y ∧ okc a z
  · obtain ⟨ha, hx, hy, hz⟩ := hall
    have o0 : okc a 0 := ⟨by omega, ha.1⟩
    have o1 : okc a (-1) := ⟨by omega, by omega⟩
    refine Ev.rounds (Ev.bind awake_ev ?_)
    simp only [if_true]
    refine Ev.bind (two_ok a x y ha hx hy) (Ev.bind (two_ok a y x ha hy hx) (Ev.bind (two_ok a y z ha hy hz) (Ev.bind (two_ok a x z ha hx hz) ?_)))
    simp only [if_true, bne_self_eq_false]
    refine Ev.step (fun k => stackyardlaw02_CostSemiring.j0.eq_2 ..) ?_
    simp only [Bool.false_eq_true, if_false]
    refine Ev.bind (two_ok a (lst x y) z ha (lst_ok hx hy) hz) (Ev.bind (two_ok a x (lst y z) ha hx (lst_ok hy hz)) (Ev.bind (two_ok a (S2 a x y) z ha (S2_ok ha.1 hx hy) hz) (Ev.bind (two_ok a x (S2 a y z) ha hx (S2_ok ha.1 hy hz)) ?_)))
    refine Ev.bind (two_ok a x (lst y z) ha hx (lst_ok hy hz)) (Ev.bind (two_ok a (S2 a x y) (S2 a x z) ha (S2_ok ha.1 hx hy) (S2_ok ha.1 hx hz)) (Ev.bind (two_ok a x x ha hx hx) (Ev.bind (two_ok a x (-1) ha hx o1) (Ev.bind (two_ok a x 0 ha hx o0) ?_))))
    refine ⟨0, fun k _ => ?_⟩
    simp only [if_pos (lst_comm x y), if_pos (S2_comm a x y), if_pos (lst_assoc x y z), if_pos (S2_assoc ha.1 hx hy hz), if_pos (S2_over ha.1 hx hy hz), if_pos (lst_self x), if_pos (lst_none x), if_pos (S2_none a x), S2_zero hx, beq_self_eq_true]
  · have h3 : chk a [x, y, z] ≠ 0 := fun h => by
      have hc := chk_zero.1 h
      exact hall ⟨hc.1, hc.2 x (by simp), hc.2 y (by simp), hc.2 z (by simp)⟩
    have hb : (chk a [x, y, z] != 0) = true := by simpa using h3
    have hend : ∀ u1 u2 u3 u4 u5 u6 u7, Ev (fun k => stackyardlaw02_CostSemiring.j0 k a x y z u1 u2 u3 u4 u5 u6 u7 true) true := by
      intro u1 u2 u3 u4 u5 u6 u7
      refine Ev.step (fun k => stackyardlaw02_CostSemiring.j0.eq_2 ..) ?_
      simp only [if_true]
      refine Ev.bind (refCheck_ev a [x, y, z] (by simp)) ?_
      rw [hb]
      exact Ev.now _
    obtain ⟨v1, e1, c1⟩ := two_err a x y
    obtain ⟨v2, e2, c2⟩ := two_err a y x
    obtain ⟨v3, e3, c3⟩ := two_err a y z
    obtain ⟨v4, e4, c4⟩ := two_err a x z
    refine Ev.rounds (Ev.bind awake_ev ?_)
    simp only [if_true]
    refine Ev.bind e1 (Ev.bind e2 (Ev.bind e3 (Ev.bind e4 ?_)))
    by_cases z1 : v1.2.2 = 0
    · by_cases z2 : v2.2.2 = 0
      · by_cases z3 : v3.2.2 = 0
        · simp only [if_pos z1, if_pos z2, if_pos z3]
          have z4 : (v4.2.2 != 0) = true := by
            have hn : v4.2.2 ≠ 0 := fun h4 => by
              rw [c1] at z1; rw [c3] at z3; rw [c4] at h4
              have a1 := chk_zero.1 z1
              have a3 := chk_zero.1 z3
              exact hall ⟨a1.1, a1.2 x (by simp), a1.2 y (by simp), a3.2 z (by simp)⟩
            simpa using hn
          rw [z4]
          exact hend ..
        · simp only [if_pos z1, if_pos z2, if_neg z3]
          exact hend ..
      · simp only [if_pos z1, if_neg z2]
        exact hend ..
    · simp only [if_neg z1]
      exact hend ..

/-! to be at most -/
def am (x y : Int) : Bool := lst x y == x
theorem am_iff (x y : Int) : am x y = true ↔ (y = -1 ∨ (x ≠ -1 ∧ x ≤ y)) := by
  unfold am lst
  rw [beq_iff_eq]
  omega
theorem am_ok (a x y : Int) (ha : 0 ≤ a ∧ a ≤ 1048576) (hx : okc a x) (hy : okc a y) : Ev (fun k => cost_AtMost.f k a x y) (am x y, 0) := by
  have hc : chk a [x, y] = 0 := chk_zero.2 ⟨ha, by intro z hz; simp at hz; rcases hz with rfl | rfl <;> assumption⟩
  refine Ev.bind (least_ev a [x, y] (by simp)) ?_
  have e1 : leastV a [x, y] = (lst x y, 0) := by
    unfold leastV; rw [if_pos hc]; simp [lst]
  rw [e1]
  exact Ev.now _
theorem am_no (a x y : Int) (h : chk a [x, y] ≠ 0) : Ev (fun k => cost_AtMost.f k a x y) (false, chk a [x, y]) := by
  refine Ev.bind (least_ev a [x, y] (by simp)) ?_
  have e1 : leastV a [x, y] = (0, chk a [x, y]) := by unfold leastV; rw [if_neg h]
  rw [e1]
  simp only [if_neg h]
  exact Ev.now _
def amV (a x y : Int) : Bool × Int := if chk a [x, y] = 0 then (am x y, 0) else (false, chk a [x, y])
theorem am_ev (a x y : Int) : Ev (fun k => cost_AtMost.f k a x y) (amV a x y) := by
  unfold amV
  by_cases h : chk a [x, y] = 0
  · have hc := chk_zero.1 h
    rw [if_pos h]
    exact am_ok a x y hc.1 (hc.2 x (by simp)) (hc.2 y (by simp))
  · rw [if_neg h]
    exact am_no a x y h
theorem amV_err (a x y : Int) : (amV a x y).2 = chk a [x, y] := by
  unfold amV
  split
  · rename_i h; exact h.symm
  · rfl

theorem CostOrder : stackyardlaw02_CostOrder.Pure := by
  intro a x y z _ _ _ _
  by_cases hall : (0 ≤ a ∧ a ≤ 1048576) ∧ okc a x ∧ okc a y ∧ okc a z
  · obtain ⟨ha, hx, hy, hz⟩ := hall
    have o1 : okc a (-1) := ⟨by omega, by omega⟩
    have hend : ∀ u3 : Bool, u3 = am x y → Ev (fun k => stackyardlaw02_CostOrder.j1 k a x y z u3 false) true := by
      intro u3 hu
      refine Ev.step (fun k => stackyardlaw02_CostOrder.j1.eq_2 ..) ?_
      simp only [Bool.false_eq_true, if_false]
      refine Ev.bind (two_ok a x z ha hx hz) (Ev.bind (two_ok a y z ha hy hz) (Ev.bind (am_ok a (S2 a x z) (S2 a y z) ha (S2_ok ha.1 hx hz) (S2_ok ha.1 hy hz)) (Ev.bind (am_ok a x (-1) ha hx o1) ?_)))
      have t1 : am x (-1) = true := (am_iff _ _).2 (.inl rfl)
      simp only [if_true, t1]
      by_cases h : u3 = true
      · rw [if_pos h]
        have h1 : am (S2 a x z) (S2 a y z) = true := by
          rw [hu] at h
          rw [am_iff] at h ⊢
          unfold S2 okc at *
          omega
        rw [h1]
        exact Ev.now _
      · rw [if_neg h]
        exact Ev.now _
    refine Ev.rounds (Ev.bind awake_ev ?_)
    simp only [if_true]
    refine Ev.bind (am_ok a x y ha hx hy) (Ev.bind (am_ok a y x ha hy hx) (Ev.bind (am_ok a y z ha hy hz) (Ev.bind (am_ok a x z ha hx hz) ?_)))
    simp only [if_true, bne_self_eq_false]
    refine Ev.step (fun k => stackyardlaw02_CostOrder.j0.eq_2 ..) ?_
    simp only [Bool.false_eq_true, if_false]
    have i1 := am_iff x y
    have i2 := am_iff y x
    have i3 := am_iff y z
    have i4 := am_iff x z
    by_cases a1 : am x y = true
    · by_cases a2 : am y x = true
      · have e : x = y := by rw [i1] at a1; rw [i2] at a2; omega
        simp only [if_pos a1, if_pos a2, if_pos e]
        by_cases a3 : am y z = true
        · have a4 : am x z = true := by rw [e]; exact a3
          simp only [if_pos a3, a4, Bool.not_true]
          exact hend _ rfl
        · simp only [if_neg a3]
          exact hend _ rfl
      · simp only [if_pos a1, if_neg a2]
        by_cases a3 : am y z = true
        · have a4 : am x z = true := by rw [i1] at a1; rw [i3] at a3; rw [i4]; omega
          simp only [if_pos a3, a4, Bool.not_true]
          exact hend _ rfl
        · simp only [if_neg a3]
          exact hend _ rfl
    · have a2 : am y x = true := by
        have a1' : ¬ (y = -1 ∨ x ≠ -1 ∧ x ≤ y) := fun h => a1 (i1.2 h)
        rw [i2]; omega
      simp only [if_neg a1, if_pos a2]
      exact hend _ rfl
  · have h3 : chk a [x, y, z] ≠ 0 := fun h => by
      have hc := chk_zero.1 h
      exact hall ⟨hc.1, hc.2 x (by simp), hc.2 y (by simp), hc.2 z (by simp)⟩
    have hb : (chk a [x, y, z] != 0) = true := by simpa using h3
    have hend : ∀ u1 u2 u3 u4, Ev (fun k => stackyardlaw02_CostOrder.j0 k a x y z u1 u2 u3 u4 true) true := by
      intro u1 u2 u3 u4
      refine Ev.step (fun k => stackyardlaw02_CostOrder.j0.eq_2 ..) ?_
      simp only [if_true]
      refine Ev.bind (refCheck_ev a [x, y, z] (by simp)) ?_
      rw [hb]
      exact Ev.now _
    refine Ev.rounds (Ev.bind awake_ev ?_)
    simp only [if_true]
    refine Ev.bind (am_ev a x y) (Ev.bind (am_ev a y x) (Ev.bind (am_ev a y z) (Ev.bind (am_ev a x z) ?_)))
    simp only [amV_err]
    by_cases z1 : chk a [x, y] = 0
    · by_cases z2 : chk a [y, x] = 0
      · by_cases z3 : chk a [y, z] = 0
        · simp only [if_pos z1, if_pos z2, if_pos z3]
          have z4 : (chk a [x, z] != 0) = true := by
            have hn : chk a [x, z] ≠ 0 := fun h4 => by
              have a1 := chk_zero.1 z1
              have a3 := chk_zero.1 z3
              exact hall ⟨a1.1, a1.2 x (by simp), a1.2 y (by simp), a3.2 z (by simp)⟩
            simpa using hn
          rw [z4]
          exact hend ..
        · simp only [if_pos z1, if_pos z2, if_neg z3]
          exact hend ..
      · simp only [if_pos z1, if_neg z2]
        exact hend ..
    · simp only [if_neg z1]
      exact hend ..

/-! a row downwards -/
theorem chk_nil (a : Int) : chk a [] = if 0 ≤ a ∧ a ≤ 1048576 then 0 else 20 := by
  unfold chk
  by_cases h : a < 0 ∨ a > 1048576
  · rw [if_pos h, if_neg (by omega)]
  · rw [if_neg h, if_neg (by simp), if_pos (by omega)]
def heightV (a : Int) : Int × Int := if 0 ≤ a ∧ a ≤ 1048576 then (a + 1, 0) else (0, 20)
theorem height_ev (a : Int) : Ev (fun k => cost_Height.f k a) (heightV a) := by
  refine Ev.bind (checks_ev a [] (by simp)) ?_
  rw [chk_nil]
  unfold heightV
  by_cases h : 0 ≤ a ∧ a ≤ 1048576
  · have hw : wrap64 (a + 1) = a + 1 := by unfold wrap64; omega
    simp only [if_pos h, if_true, hw]
    exact Ev.now _
  · simp only [if_neg h]
    exact Ev.now _
def rank (a x : Int) : Int := if x = -1 then a + 1 else x
theorem row_ev (a : Int) (ha : 0 ≤ a ∧ a ≤ 1048576) (l : List Int) (hl : l.length ≤ 1000) : ∀ (d i : Nat) (s : Int), 1 ≤ i → i ≤ 1001 → l.length ≤ i + d → 0 ≤ s → s ≤ a + 1 → (i - 1 < l.length → okc a (rd l ((i : Int) - 1)) → s + rank a (rd l ((i : Int) - 1)) ≤ a + 1) →
    Ev (fun k => stackyardlaw02_CostRow.l0 k a l (a + 1) s (i : Int)) true := by
  have hend : (a + 1 == wrap64 (a - -1)) = true := by
    have : wrap64 (a - -1) = a + 1 := by unfold wrap64; omega
    rw [this]; exact beq_self_eq_true _
  intro d
  induction d with
  | zero =>
    intro i s h1 hi h2 h3 h4 h5
    refine Ev.step (fun k => stackyardlaw02_CostRow.l0.eq_2 ..) ?_
    rw [hend]
    simp only [if_neg (show ¬ (i : Int) < (l.length : Int) by omega), if_pos h4]
    exact Ev.now _
  | succ d ih =>
    intro i s h1 hi h2 h3 h4 h5
    refine Ev.step (fun k => stackyardlaw02_CostRow.l0.eq_2 ..) ?_
    rw [hend]
    by_cases hlt : (i : Int) < (l.length : Int)
    · have hw : wrap64 ((i : Int) - 1) = (i : Int) - 1 := by unfold wrap64; omega
      simp only [if_pos hlt, hw, if_pos (show (0 : Int) ≤ (i : Int) by omega), if_pos (show (0 : Int) ≤ (i : Int) - 1 by omega), if_pos (show (i : Int) - 1 < (l.length : Int) by omega), if_pos h4]
      refine Ev.bind (am_ev a (rd l i) (rd l ((i : Int) - 1))) ?_
      unfold amV
      by_cases hc : chk a [rd l (i : Int), rd l ((i : Int) - 1)] = 0
      · simp only [if_pos hc, if_true]
        have hz := chk_zero.1 hc
        have o1 : okc a (rd l (i : Int)) := hz.2 _ (by simp)
        have o2 : okc a (rd l ((i : Int) - 1)) := hz.2 _ (by simp)
        by_cases hm : am (rd l (i : Int)) (rd l ((i : Int) - 1)) = true
        · simp only [if_pos hm]
          by_cases he : rd l (i : Int) = rd l ((i : Int) - 1)
          · simp only [if_pos he]
            exact Ev.now _
          · simp only [if_neg he]
            have h6 := h5 (by omega) o2
            rw [am_iff] at hm
            have hr : rank a (rd l (i : Int)) + 1 ≤ rank a (rd l ((i : Int) - 1)) := by
              unfold rank okc at *
              omega
            have hr0 : 0 ≤ rank a (rd l (i : Int)) := by unfold rank okc at *; omega
            have w1 : wrap64 (s + 1) = s + 1 := by unfold wrap64; omega
            rw [w1, wrap_succ i (by omega)]
            refine ih (i + 1) (s + 1) (by omega) (by omega) (by omega) (by omega) (by omega) (fun _ _ => ?_)
            have e : ((i + 1 : Nat) : Int) - 1 = (i : Int) := by omega
            rw [e]
            omega
        · simp only [if_neg hm]
          exact Ev.now _
      · simp only [if_neg hc]
        exact Ev.now _
    · simp only [if_neg hlt, if_pos h4]
      exact Ev.now _
theorem CostRow : stackyardlaw02_CostRow.Pure := by
  intro a l _ _ _ _
  refine Ev.rounds (Ev.bind awake_ev ?_)
  simp only [if_true]
  refine Ev.bind (height_ev a) ?_
  unfold heightV
  by_cases ha : 0 ≤ a ∧ a ≤ 1048576
  · simp only [if_pos ha, if_true]
    obtain ⟨l', hl, hn, _⟩ := few_eq l
    simp only [hl, Option.bind_some]
    refine row_ev a ha l' hn l'.length 1 0 (by omega) (by omega) (by omega) (by omega) (by omega) (fun _ h => ?_)
    unfold rank okc at *
    omega
  · simp only [if_neg ha]
    exact ⟨0, fun k _ => by rfl⟩
end Go.Proofs.YtgjeoioneoncnaaDoor.Pure
