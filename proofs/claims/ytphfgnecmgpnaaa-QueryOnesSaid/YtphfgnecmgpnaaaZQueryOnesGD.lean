/- GD, for the statement QueryOnes: what it needs, no more. -/
import Derived.Test.YtphfgnecmgpnaaaZQueryOnesGC
set_option linter.unusedVariables false
set_option maxRecDepth 8000
set_option maxHeartbeats 4000000
namespace Go.RM.Try
open Go.RM Go.Proofs
variable {X : FuncId → List PV → Heap → PV → Heap → Prop}
def cells_right.f (a0 : Int) (a1 : TCell) (r : Bool) : Prop :=
  ∃ t2_3 : Int, (cells_mask.f a0 t2_3) ∧ if (bitOp .andNot .u64 a1.From t2_3) = 0 then (if a1.Kind = 1 then (r = true) else (if a1.Kind = 0 then (r = (a1.K == 0)) else (if a1.Kind = 2 then (r = ((a1.From == 0) && ((a1.Kind == 2) && ((a1.K == 0) && true)))) else (r = false)))) else (r = false)
theorem cells_right.D {a0 : Int} {a1 : TCell} {r : Bool} (h : cells_right.f a0 a1 r) : D Try.prog X (.callH 100 [.val (.int .i64 a0), .agg (TCell.lit a1)] [] (.val (.bool r)) []) := by
  unfold cells_right.f at h
  refine .enter 25 0 fn100 rfl rfl rfl ?_
  refine .seq ?_
  refine .room 0 ?_
  refine .reg0 rfl (.op 0 rfl (bxP (s := 3) (cs := (TCell.lit a1)) rfl ⟨rfl, by decide, rfl⟩ rfl) <| .op 0 rfl (asV rfl) <| .nil0) ?_
  refine .seq ?_
  refine .seq ?_
  obtain ⟨t2_3, g2_3, h⟩ := h
  refine .reg1 (e1 := listEnv [(3, .ptr 0 1 3 0 0), (10, .val (.bool ((bitOp .andNot .u64 a1.From t2_3) != 0)))]) (H1 := [⟨3, [(TCell.lit a1)], 0, none⟩]) rfl ?_ ?_
  · exact .drawM [(5, 10, .val (.bool ((bitOp .andNot .u64 a1.From t2_3) != 0))), (4, 9, .val (.int .u64 (bitOp .andNot .u64 a1.From t2_3))), (3, 8, .val (.int .u64 t2_3)), (2, 7, .val (.int .i64 a0)), (1, 6, .val (.int .u64 a1.From)), (0, 5, .ptr 0 1 3 0 0)] [] [[], [0], [], [2], [1, 0, 3, 2], [4, 1, 0, 3, 2]] (by rfl) (by rfl) (by rfl) (by exact ⟨fun S hS hD hn => .one 0 hS hD hn rfl rfl (faP fa72_0 rfl) rfl rfl rfl, fun S hS hD hn => .one 0 hS hD hn rfl rfl (ldP rfl sz41 ag41 rfl) rfl rfl rfl, fun S hS hD hn => .one 0 hS hD hn rfl rfl (mvV rfl) rfl rfl rfl, fun S hS hD hn => .oneI hS hD hn rfl rfl (callee_of rfl go104 rfl) (.pure rfl rfl (cells_mask.D g2_3)) rfl rfl rfl, fun S hS hD hn => .one 0 hS hD hn rfl rfl (andNotI rfl rfl) rfl rfl rfl, fun S hS hD hn => .one 0 hS hD hn rfl rfl (neI rfl rfl) rfl rfl rfl, trivial⟩) _ (by exact ⟨.ptr rfl, .free rfl rfl, trivial⟩) (by rfl)
  by_cases c1 : (bitOp .andNot .u64 a1.From t2_3) = 0
  · rw [if_pos c1] at h
    refine .condF rfl (bne_eq_false_iff_eq.mpr c1) ?_
    refine .skip ?_
    refine .seq ?_
    refine .seq ?_
    refine .reg0 rfl (.op 0 rfl (faP fa72_1 rfl) <| .op 0 rfl (ldP rfl sz70 ag70 rfl) <| .nil0) ?_
    refine .block ?_
    refine .seq ?_
    refine .reg0 rfl (.op 0 rfl (eqI rfl rfl) <| .op 0 rfl (asV rfl) <| .nil0) ?_
    by_cases c2 : a1.Kind = 1
    · rw [if_pos c2] at h
      refine .condT rfl (beq_iff_eq.mpr c2) ?_
      refine .seq ?_
      refine .reg0 rfl (.op 0 rfl (asV rfl) <| .nil0) ?_
      replace h := h.symm
      subst h
      refine .keepL [] [(4, .val (.bool true))] [] (by decide) (by decide) ⟨.free rfl rfl, trivial⟩ trivial ?_
      exact .ret rfl
    · rw [if_neg c2] at h
      refine .condF rfl (beq_eq_false_iff_ne.mpr c2) ?_
      refine .seq ?_
      refine .reg0 rfl (.op 0 rfl (eqI rfl rfl) <| .op 0 rfl (asV rfl) <| .nil0) ?_
      by_cases c3 : a1.Kind = 0
      · rw [if_pos c3] at h
        refine .condT rfl (beq_iff_eq.mpr c3) ?_
        refine .seq ?_
        refine .reg0 rfl (.op 0 rfl (faP fa72_2 rfl) <| .op 0 rfl (ldP rfl sz2 ag2 rfl) <| .op 0 rfl (eqI rfl rfl) <| .op 0 rfl (asV rfl) <| .nil0) ?_
        replace h := h.symm
        subst h
        refine .keepL [] [(4, .val (.bool (a1.K == 0)))] [] (by decide) (by decide) ⟨.free rfl rfl, trivial⟩ trivial ?_
        exact .ret rfl
      · rw [if_neg c3] at h
        refine .condF rfl (beq_eq_false_iff_ne.mpr c3) ?_
        refine .seq ?_
        refine .reg0 rfl (.op 0 rfl (eqI rfl rfl) <| .op 0 rfl (asV rfl) <| .nil0) ?_
        by_cases c4 : a1.Kind = 2
        · rw [if_pos c4] at h
          refine .condT rfl (beq_iff_eq.mpr c4) ?_
          refine .seq ?_
          refine .reg0 rfl (.op 0 rfl (ldG rfl sz72 ag72 rfl) <| .op 0 rfl (bldS (cs := [.val (.int .u64 0), .val (.int .i64 2), .val (.int .i64 0)]) ze72 pl72 rfl rfl) <| .op 0 rfl (eqS (xs := [.int .u64 a1.From, .int .i64 a1.Kind, .int .i64 a1.K]) (ys := [.int .u64 0, .int .i64 2, .int .i64 0]) ek72 rfl rfl rfl rfl rfl) <| .op 0 rfl (asV rfl) <| .nil0) ?_
          replace h := h.symm
          subst h
          refine .keepL [] [(4, .val (.bool ((a1.From == 0) && ((a1.Kind == 2) && ((a1.K == 0) && true)))))] [] (by decide) (by decide) ⟨.free rfl rfl, trivial⟩ trivial ?_
          exact .ret rfl
        · rw [if_neg c4] at h
          refine .condF rfl (beq_eq_false_iff_ne.mpr c4) ?_
          refine .skip ?_
          refine .inBlock ?_
          refine .seq ?_
          refine .reg0 rfl (.op 0 rfl (asV rfl) <| .nil0) ?_
          replace h := h.symm
          subst h
          refine .keepL [] [(4, .val (.bool false))] [] (by decide) (by decide) ⟨.free rfl rfl, trivial⟩ trivial ?_
          exact .ret rfl
  · rw [if_neg c1] at h
    refine .condT rfl (bne_iff_ne.mpr c1) ?_
    refine .seq ?_
    refine .reg0 rfl (.op 0 rfl (asV rfl) <| .nil0) ?_
    replace h := h.symm
    subst h
    refine .keepL [] [(4, .val (.bool false))] [] (by decide) (by decide) ⟨.free rfl rfl, trivial⟩ trivial ?_
    exact .ret rfl
def cells_Check.b1 (a0 : Int) (a1 : List TCell) : Int → Rnd Int Unit Int → Prop := fun x1 z1 => if x1 < (a1.length : Int) then (((InR x1 a1.length)) ∧ ∃ t18_2 : Bool, (cells_right.f a0 (rdl a1 x1) t18_2) ∧ if t18_2 = true then (z1 = .next (IntKind.i64.wrap (x1 + 1))) else (z1 = .ret 40)) else (z1 = .exit ())
def cells_Check.f (a0 : Int) (a1 : List TCell) (r : Int) : Prop :=
  ∃ t2_1 : Int, (cells_dims.f a0 t2_1) ∧ if t2_1 = 0 then (if (a1.length : Int) = a0 then (∃ o1 : Fin Unit Int, Loop (cells_Check.b1 a0 a1) 0 o1 ∧ o1.on (fun _ => r = 0) (fun r_ => r = r_)) else (r = 40)) else (r = t2_1)
theorem cells_Check.D {a0 : Int} {a1 : List TCell} {r : Int} (h : cells_Check.f a0 a1 r) : D Try.prog X (.callH 94 [.val (.int .i64 a0), .rows (a1.map TCell.cells)] [] (.val (.int .i64 r)) []) := by
  unfold cells_Check.f at h
  refine .enter 28 0 fn94 rfl rfl rfl ?_
  refine .seq ?_
  refine .reg0 rfl (.op 0 rfl (asV rfl) <| .nil0) ?_
  refine .seq ?_
  refine .seq ?_
  obtain ⟨t2_1, g2_1, h⟩ := h
  refine .reg0 rfl (.op 0 rfl (mvV rfl) <| .callI rfl (callee_of rfl go84 rfl) (.pure rfl rfl (cells_dims.D g2_1)) <| .op 0 rfl (asV rfl) <| .nil0) ?_
  refine .seq ?_
  refine .reg0 rfl (.op 0 rfl (mvV rfl) <| .op 0 rfl (neI rfl rfl) <| .nil0) ?_
  by_cases c1 : t2_1 = 0
  · rw [if_pos c1] at h
    refine .condF rfl (bne_eq_false_iff_eq.mpr c1) ?_
    refine .skip ?_
    refine .seq ?_
    refine .seq ?_
    refine .reg0 rfl (.op 0 rfl (mvR rfl) <| .op 0 rfl (lnR (l := a1) sl45 rfl) <| .op 0 rfl (mvV rfl) <| .op 0 rfl (neI rfl rfl) <| .nil0) ?_
    by_cases c2 : (a1.length : Int) = a0
    · rw [if_pos c2] at h
      refine .condF rfl (bne_eq_false_iff_eq.mpr c2) ?_
      refine .skip ?_
      refine .seq ?_
      refine .seq ?_
      refine .reg0 rfl (.op 0 rfl (mvR rfl) <| .op 0 rfl (lnR (l := a1) sl45 rfl) <| .op 0 rfl (mvV rfl) <| .nil0) ?_
      refine .block ?_
      refine .keepL [] [(0, .val (.int .i64 a0)), (17, .rows (a1.map TCell.cells)), (18, .val (.int .i64 (a1.length : Int))), (19, .val (.int .i64 0))] [] (by decide) (by decide) ⟨.free rfl rfl, .free rfl rfl, .free rfl rfl, .free rfl rfl, trivial⟩ trivial ?_
      obtain ⟨o1, hL1, h⟩ := h
      refine .loopB (cells_Check.b1 a0 a1) (fun x1 => listEnv [(0, .val (.int .i64 a0)), (17, .rows (a1.map TCell.cells)), (18, .val (.int .i64 (a1.length : Int))), (19, .val (.int .i64 x1))]) (fun x1 => []) (fun _ => listEnv []) (fun _ => []) hL1 (fun r_ => r = r_) ?_ ?_ ?_
      · rintro ⟨⟩ rfl
        try dsimp only [Fin.on] at h
        refine .seq ?_
        refine .reg0 rfl (.op 0 rfl (asV rfl) <| .nil0) ?_
        replace h := h.symm
        subst h
        refine .keepL [] [(4, .val (.int .i64 0))] [] (by decide) (by decide) ⟨.free rfl rfl, trivial⟩ trivial ?_
        exact .ret rfl
      · rintro r_ rfl
        exact h
      · rintro x1 z1 h hn1 hx1 hr1
        dsimp only [cells_Check.b1] at h
        refine .seq ?_
        refine .reg0 rfl (.op 0 rfl (ltI rfl rfl) <| .nil0) ?_
        refine .seq ?_
        by_cases c7 : x1 < (a1.length : Int)
        · rw [if_pos c7] at h
          refine .condT rfl (decide_eq_true c7) ?_
          refine .skip ?_
          refine .seq ?_
          refine .block ?_
          refine .seq ?_
          obtain ⟨g17_0, h⟩ := h
          refine .room 0 ?_
          refine .reg0 rfl (.op 0 rfl (ixR (l := a1) (lit := TCell.lit) sl45 rfl rfl (fun _ => rfl) g17_0.1 g17_0.2) <| .op 0 rfl (ldCG rfl sz72 ag72 rfl) <| .op 0 rfl (alP (s := 3) ze72 ⟨rfl, by decide, rfl⟩ rfl) <| .op 0 rfl (stB (cs0 := [.val (.int .u64 0), .val (.int .i64 0), .val (.int .i64 0)]) (cs := (TCell.lit (rdl a1 x1))) (cs1 := (TCell.lit (rdl a1 x1))) rfl rfl sz72 rfl ⟨Nat.le_of_ble_eq_true rfl, rfl⟩ rfl) <| .nil0) ?_
          refine .seq ?_
          obtain ⟨t18_2, g18_2, h⟩ := h
          refine .reg0 rfl (.op 0 rfl (mvV rfl) <| .op 0 rfl (ldG rfl sz72 ag72 rfl) <| .callI rfl (callee_of rfl go100 rfl) (.pure rfl rfl (cells_right.D g18_2)) <| .op 0 rfl (notB rfl) <| .nil0) ?_
          by_cases c8 : t18_2 = true
          · rw [if_pos c8] at h
            refine .condF rfl (bnotF c8) ?_
            refine .skip ?_
            refine .inBlock ?_
            refine .reg0 rfl (.op 0 rfl (addI rfl rfl) <| .op 0 rfl (mvV rfl) <| .nil0) ?_
            refine .keepL [] [(0, .val (.int .i64 a0)), (17, .rows (a1.map TCell.cells)), (18, .val (.int .i64 (a1.length : Int))), (19, .val (.int .i64 (IntKind.i64.wrap (x1 + 1))))] [] (by decide) (by decide) ⟨.free rfl rfl, .free rfl rfl, .free rfl rfl, .free rfl rfl, trivial⟩ trivial ?_
            exact hn1 _ h
          · rw [if_neg c8] at h
            refine .condT rfl (bnotT (Bool.eq_false_iff.mpr c8)) ?_
            refine .seq ?_
            refine .reg0 rfl (.op 0 rfl (asV rfl) <| .nil0) ?_
            have q3 := hr1 _ h
            replace q3 := q3.symm
            subst q3
            refine .keepL [] [(4, .val (.int .i64 40))] [] (by decide) (by decide) ⟨.free rfl rfl, trivial⟩ trivial ?_
            exact .ret rfl
        · rw [if_neg c7] at h
          refine .condF rfl (decide_eq_false c7) ?_
          refine .exit rfl ?_
          refine .keepL [] [] [] (by decide) (by decide) trivial trivial ?_
          exact hx1 _ h
    · rw [if_neg c2] at h
      refine .condT rfl (bne_iff_ne.mpr c2) ?_
      refine .seq ?_
      refine .reg0 rfl (.op 0 rfl (asV rfl) <| .nil0) ?_
      replace h := h.symm
      subst h
      refine .keepL [] [(4, .val (.int .i64 40))] [] (by decide) (by decide) ⟨.free rfl rfl, trivial⟩ trivial ?_
      exact .ret rfl
  · rw [if_neg c1] at h
    refine .condT rfl (bne_iff_ne.mpr c1) ?_
    refine .seq ?_
    refine .reg0 rfl (.op 0 rfl (mvV rfl) <| .op 0 rfl (asV rfl) <| .nil0) ?_
    replace h := h.symm
    subst h
    refine .keepL [] [(4, .val (.int .i64 t2_1))] [] (by decide) (by decide) ⟨.free rfl rfl, trivial⟩ trivial ?_
    exact .ret rfl
def weight_is.step (self82 : TSpace → TWeight → Bool → Prop) (a0 : TSpace) (a1 : TWeight) (r : Bool) : Prop :=
  if a1.Zero = true then (∃ t3_5 : Bool, (¬ (a0.Tag = 5) → weight_bare.f a1 0 t3_5) ∧ r = ((!(a0.Tag == 5)) && t3_5)) else (∃ t4_3 : Bool, (weight_bare.f a1 a0.Tag t4_3) ∧ if t4_3 = true then (if a0.Tag = 2 then (∃ t7_8 : Int, (¬ (a1.Cost = (-1)) → cost_Check.f a0.Dim a1.Cost t7_8) ∧ r = ((!(a1.Cost == (-1))) && (t7_8 == 0))) else (if a0.Tag = 3 then (∃ t9_4 : Int, (facts_Check.f a0.Dim a1.Facts t9_4) ∧ r = (t9_4 == 0)) else (if a0.Tag = 4 then (∃ t11_4 : Int, (cells_Check.f a0.Dim a1.Cells t11_4) ∧ r = (t11_4 == 0)) else (if a0.Tag = 5 then ((((a1.Parts.length : Int) = 2) → (InR 0 a0.Parts.length)) ∧ (((a1.Parts.length : Int) = 2) → (InR 0 a1.Parts.length)) ∧ ∃ t13_13 : Bool, (((a1.Parts.length : Int) = 2) → self82 (rdl a0.Parts 0) (rdl a1.Parts 0) t13_13) ∧ (((a1.Parts.length : Int) = 2) → (t13_13 = true) → (InR 1 a0.Parts.length)) ∧ (((a1.Parts.length : Int) = 2) → (t13_13 = true) → (InR 1 a1.Parts.length)) ∧ ∃ t13_24 : Bool, (((a1.Parts.length : Int) = 2) → (t13_13 = true) → self82 (rdl a0.Parts 1) (rdl a1.Parts 1) t13_24) ∧ r = (((a1.Parts.length : Int) == 2) && (t13_13 && t13_24))) else (r = true))))) else (r = false))
theorem weight_is.stepD {self82 : TSpace → TWeight → Bool → Prop} {a0 : TSpace} {a1 : TWeight} (hs82 : ∀ z0_ z1_ r_, self82 z0_ z1_ r_ → D Try.prog X (.callH 82 [.agg (TSpace.lit z0_), .agg (TWeight.lit z1_)] [] (.val (.bool r_)) [])) {r : Bool} (h : weight_is.step self82 a0 a1 r) : D Try.prog X (.callH 82 [.agg (TSpace.lit a0), .agg (TWeight.lit a1)] [] (.val (.bool r)) []) := by
  unfold weight_is.step at h
  refine .enter 78 0 fn82 rfl rfl rfl ?_
  refine .seq ?_
  refine .room 0 ?_
  refine .room 0 ?_
  refine .reg0 rfl (.op 0 rfl (bxP (s := 3) (cs := (TSpace.lit a0)) rfl ⟨rfl, by decide, rfl⟩ rfl) <| .op 1 rfl (bxP (s := 6) (cs := (TWeight.lit a1)) rfl ⟨rfl, by decide, rfl⟩ rfl) <| .op 0 rfl (asV rfl) <| .nil0) ?_
  refine .seq ?_
  refine .seq ?_
  refine .reg0 rfl (.op 0 rfl (faP fa48_0 rfl) <| .op 0 rfl (ldP rfl sz4 ag4 rfl) <| .nil0) ?_
  by_cases c1 : a1.Zero = true
  · rw [if_pos c1] at h
    refine .condT rfl c1 ?_
    refine .seq ?_
    obtain ⟨t3_5, g3_5, h⟩ := h
    refine .reg0 (e1 := listEnv [(4, .val (.bool ((!(a0.Tag == 5)) && t3_5)))]) (H1 := [⟨3, [(TSpace.lit a0)], 0, none⟩, ⟨6, [(TWeight.lit a1)], 0, none⟩]) rfl ?_ ?_
    · by_cases c2 : a0.Tag = 5
      · exact (.op 0 rfl (faP fa25_0 rfl) <| .op 0 rfl (ldP rfl sz22 ag22 rfl) <| .op 0 rfl (neI rfl rfl) <| .op 0 rfl (mvV rfl) <| .no (gF rfl rfl rfl (bne_eq_false_iff_eq.mpr c2)) <| .no (gF rfl rfl rfl (bne_eq_false_iff_eq.mpr c2)) <| .op 0 rfl (pkFV rfl (bne_eq_false_iff_eq.mpr c2) rfl) <| .op 0 rfl (asV rfl) <| .nilL _ ⟨cB rfl (mAndF (bnotF (beq_iff_eq.mpr c2))), trivial⟩)
      · exact (.op 0 rfl (faP fa25_0 rfl) <| .op 0 rfl (ldP rfl sz22 ag22 rfl) <| .op 0 rfl (neI rfl rfl) <| .op 0 rfl (mvV rfl) <| .op 0 (gT rfl rfl rfl (bne_iff_ne.mpr c2)) (ldG rfl sz48 ag48 rfl) <| .callI (gT rfl rfl rfl (bne_iff_ne.mpr c2)) (callee_of rfl go91 rfl) (.pure rfl rfl (weight_bare.D (g3_5 c2))) <| .op 0 rfl (pkTV rfl (bne_iff_ne.mpr c2) rfl) <| .op 0 rfl (asV rfl) <| .nilL _ ⟨cB rfl (mAndT (bnotT (beq_eq_false_iff_ne.mpr c2)) rfl), trivial⟩)
    replace h := h.symm
    subst h
    refine .keepL [] [(4, .val (.bool ((!(a0.Tag == 5)) && t3_5)))] [] (by decide) (by decide) ⟨.free rfl rfl, trivial⟩ trivial ?_
    exact .ret rfl
  · rw [if_neg c1] at h
    refine .condF rfl (Bool.eq_false_iff.mpr c1) ?_
    refine .skip ?_
    refine .seq ?_
    refine .seq ?_
    obtain ⟨t4_3, g4_3, h⟩ := h
    refine .reg0 rfl (.op 0 rfl (ldG rfl sz48 ag48 rfl) <| .op 0 rfl (faP fa25_0 rfl) <| .op 0 rfl (ldP rfl sz22 ag22 rfl) <| .callI rfl (callee_of rfl go91 rfl) (.pure rfl rfl (weight_bare.D g4_3)) <| .op 0 rfl (notB rfl) <| .nil0) ?_
    by_cases c3 : t4_3 = true
    · rw [if_pos c3] at h
      refine .condF rfl (bnotF c3) ?_
      refine .skip ?_
      refine .seq ?_
      refine .seq ?_
      refine .reg0 rfl (.op 0 rfl (faP fa25_0 rfl) <| .op 0 rfl (ldP rfl sz22 ag22 rfl) <| .nil0) ?_
      refine .block ?_
      refine .seq ?_
      refine .reg0 rfl (.op 0 rfl (eqI rfl rfl) <| .op 0 rfl (asV rfl) <| .nil0) ?_
      by_cases c4 : a0.Tag = 2
      · rw [if_pos c4] at h
        refine .condT rfl (beq_iff_eq.mpr c4) ?_
        refine .seq ?_
        obtain ⟨t7_8, g7_8, h⟩ := h
        refine .reg0 (e1 := listEnv [(4, .val (.bool ((!(a1.Cost == (-1))) && (t7_8 == 0))))]) (H1 := [⟨3, [(TSpace.lit a0)], 0, none⟩, ⟨6, [(TWeight.lit a1)], 0, none⟩]) rfl ?_ ?_
        · by_cases c5 : a1.Cost = (-1)
          · exact (.op 0 rfl (faP fa48_1 rfl) <| .op 0 rfl (ldP rfl sz3 ag3 rfl) <| .op 0 rfl (neI rfl rfl) <| .op 0 rfl (mvV rfl) <| .no (gF rfl rfl rfl (bne_eq_false_iff_eq.mpr c5)) <| .no (gF rfl rfl rfl (bne_eq_false_iff_eq.mpr c5)) <| .no (gF rfl rfl rfl (bne_eq_false_iff_eq.mpr c5)) <| .no (gF rfl rfl rfl (bne_eq_false_iff_eq.mpr c5)) <| .no (gF rfl rfl rfl (bne_eq_false_iff_eq.mpr c5)) <| .no (gF rfl rfl rfl (bne_eq_false_iff_eq.mpr c5)) <| .op 0 rfl (pkFV rfl (bne_eq_false_iff_eq.mpr c5) rfl) <| .op 0 rfl (asV rfl) <| .nilL _ ⟨cB rfl (mAndF (bnotF (beq_iff_eq.mpr c5))), trivial⟩)
          · exact (.op 0 rfl (faP fa48_1 rfl) <| .op 0 rfl (ldP rfl sz3 ag3 rfl) <| .op 0 rfl (neI rfl rfl) <| .op 0 rfl (mvV rfl) <| .op 0 (gT rfl rfl rfl (bne_iff_ne.mpr c5)) (faP fa25_1 rfl) <| .op 0 (gT rfl rfl rfl (bne_iff_ne.mpr c5)) (ldP rfl sz3 ag3 rfl) <| .op 0 (gT rfl rfl rfl (bne_iff_ne.mpr c5)) (faP fa48_1 rfl) <| .op 0 (gT rfl rfl rfl (bne_iff_ne.mpr c5)) (ldP rfl sz3 ag3 rfl) <| .callI (gT rfl rfl rfl (bne_iff_ne.mpr c5)) (callee_of rfl go92 rfl) (.pure rfl rfl (cost_Check.D (g7_8 c5))) <| .op 0 (gT rfl rfl rfl (bne_iff_ne.mpr c5)) (eqI rfl rfl) <| .op 0 rfl (pkTV rfl (bne_iff_ne.mpr c5) rfl) <| .op 0 rfl (asV rfl) <| .nilL _ ⟨cB rfl (mAndT (bnotT (beq_eq_false_iff_ne.mpr c5)) rfl), trivial⟩)
        replace h := h.symm
        subst h
        refine .keepL [] [(4, .val (.bool ((!(a1.Cost == (-1))) && (t7_8 == 0))))] [] (by decide) (by decide) ⟨.free rfl rfl, trivial⟩ trivial ?_
        exact .ret rfl
      · rw [if_neg c4] at h
        refine .condF rfl (beq_eq_false_iff_ne.mpr c4) ?_
        refine .seq ?_
        refine .reg0 rfl (.op 0 rfl (eqI rfl rfl) <| .op 0 rfl (asV rfl) <| .nil0) ?_
        by_cases c6 : a0.Tag = 3
        · rw [if_pos c6] at h
          refine .condT rfl (beq_iff_eq.mpr c6) ?_
          refine .seq ?_
          obtain ⟨t9_4, g9_4, h⟩ := h
          refine .reg0 rfl (.op 0 rfl (faP fa25_1 rfl) <| .op 0 rfl (ldP rfl sz3 ag3 rfl) <| .op 0 rfl (faP fa48_2 rfl) <| .op 0 rfl (ldG rfl sz44 ag44 rfl) <| .callI rfl (callee_of rfl go93 rfl) (.pure rfl rfl (facts_Check.D g9_4)) <| .op 0 rfl (eqI rfl rfl) <| .op 0 rfl (asV rfl) <| .nil0) ?_
          replace h := h.symm
          subst h
          refine .keepL [] [(4, .val (.bool (t9_4 == 0)))] [] (by decide) (by decide) ⟨.free rfl rfl, trivial⟩ trivial ?_
          exact .ret rfl
        · rw [if_neg c6] at h
          refine .condF rfl (beq_eq_false_iff_ne.mpr c6) ?_
          refine .seq ?_
          refine .reg0 rfl (.op 0 rfl (eqI rfl rfl) <| .op 0 rfl (asV rfl) <| .nil0) ?_
          by_cases c7 : a0.Tag = 4
          · rw [if_pos c7] at h
            refine .condT rfl (beq_iff_eq.mpr c7) ?_
            refine .seq ?_
            obtain ⟨t11_4, g11_4, h⟩ := h
            refine .reg0 rfl (.op 0 rfl (faP fa25_1 rfl) <| .op 0 rfl (ldP rfl sz3 ag3 rfl) <| .op 0 rfl (faP fa48_3 rfl) <| .op 0 rfl (ldP rfl sz45 ag45 rfl) <| .callI rfl (callee_of rfl go94 rfl) (.pure rfl rfl (cells_Check.D g11_4)) <| .op 0 rfl (eqI rfl rfl) <| .op 0 rfl (asV rfl) <| .nil0) ?_
            replace h := h.symm
            subst h
            refine .keepL [] [(4, .val (.bool (t11_4 == 0)))] [] (by decide) (by decide) ⟨.free rfl rfl, trivial⟩ trivial ?_
            exact .ret rfl
          · rw [if_neg c7] at h
            refine .condF rfl (beq_eq_false_iff_ne.mpr c7) ?_
            refine .seq ?_
            refine .reg0 rfl (.op 0 rfl (eqI rfl rfl) <| .op 0 rfl (asV rfl) <| .nil0) ?_
            by_cases c8 : a0.Tag = 5
            · rw [if_pos c8] at h
              refine .condT rfl (beq_iff_eq.mpr c8) ?_
              refine .seq ?_
              obtain ⟨g13_7, h⟩ := h
              obtain ⟨g13_11, h⟩ := h
              obtain ⟨t13_13, g13_13, h⟩ := h
              obtain ⟨g13_18, h⟩ := h
              obtain ⟨g13_22, h⟩ := h
              obtain ⟨t13_24, g13_24, h⟩ := h
              refine .reg1 (e1 := listEnv [(4, .val (.bool (((a1.Parts.length : Int) == 2) && (t13_13 && t13_24))))]) (H1 := [⟨3, [(TSpace.lit a0)], 0, none⟩, ⟨6, [(TWeight.lit a1)], 0, none⟩]) rfl ?_ ?_
              · by_cases c9 : (a1.Parts.length : Int) = 2
                · by_cases c10 : t13_13 = true
                  · exact .drawM [(26, 4, .val (.bool t13_24)), (25, 77, .val (.bool t13_24)), (24, 76, .val (.bool t13_24)), (23, 75, .agg (TWeight.lit (rdl a1.Parts 1))), (22, 74, .cptr (TWeight.lit (rdl a1.Parts 1)) 0), (21, 73, .rows (a1.Parts.map TWeight.cells)), (20, 72, .ptr 1 1 6 0 5), (19, 71, .agg (TSpace.lit (rdl a0.Parts 1))), (18, 70, .cptr (TSpace.lit (rdl a0.Parts 1)) 0), (17, 69, .rows (a0.Parts.map TSpace.cells)), (16, 68, .ptr 0 1 3 0 2), (15, 67, .val (.bool t13_13)), (14, 66, .val (.bool t13_13)), (13, 65, .val (.bool t13_13)), (12, 64, .agg (TWeight.lit (rdl a1.Parts 0))), (11, 63, .cptr (TWeight.lit (rdl a1.Parts 0)) 0), (10, 62, .rows (a1.Parts.map TWeight.cells)), (9, 61, .ptr 1 1 6 0 5), (8, 60, .agg (TSpace.lit (rdl a0.Parts 0))), (7, 59, .cptr (TSpace.lit (rdl a0.Parts 0)) 0), (6, 58, .rows (a0.Parts.map TSpace.cells)), (5, 57, .ptr 0 1 3 0 2), (4, 56, .val (.bool ((a1.Parts.length : Int) == 2))), (3, 55, .val (.bool ((a1.Parts.length : Int) == 2))), (2, 54, .val (.int .i64 (a1.Parts.length : Int))), (1, 53, .rows (a1.Parts.map TWeight.cells)), (0, 52, .ptr 1 1 6 0 5)] [] [[], [0], [1, 0], [2, 1, 0], [3, 2, 1, 0], [4, 3, 2, 1, 0], [5, 4, 3, 2, 1, 0], [6, 5, 4, 3, 2, 1, 0], [7, 6, 5, 4, 3, 2, 1, 0], [4, 3, 2, 1, 0], [9, 4, 3, 2, 1, 0], [10, 9, 4, 3, 2, 1, 0], [11, 10, 9, 4, 3, 2, 1, 0], [8, 7, 6, 5, 4, 3, 2, 1, 0, 12, 11, 10, 9], [4, 3, 2, 1, 0, 13, 8, 7, 6, 5, 12, 11, 10, 9], [14, 4, 3, 2, 1, 0, 13, 8, 7, 6, 5, 12, 11, 10, 9], [15, 14, 4, 3, 2, 1, 0, 13, 8, 7, 6, 5, 12, 11, 10, 9], [16, 15, 14, 4, 3, 2, 1, 0, 13, 8, 7, 6, 5, 12, 11, 10, 9], [17, 16, 15, 14, 4, 3, 2, 1, 0, 13, 8, 7, 6, 5, 12, 11, 10, 9], [18, 17, 16, 15, 14, 4, 3, 2, 1, 0, 13, 8, 7, 6, 5, 12, 11, 10, 9], [15, 14, 4, 3, 2, 1, 0, 13, 8, 7, 6, 5, 12, 11, 10, 9], [20, 15, 14, 4, 3, 2, 1, 0, 13, 8, 7, 6, 5, 12, 11, 10, 9], [21, 20, 15, 14, 4, 3, 2, 1, 0, 13, 8, 7, 6, 5, 12, 11, 10, 9], [22, 21, 20, 15, 14, 4, 3, 2, 1, 0, 13, 8, 7, 6, 5, 12, 11, 10, 9], [19, 18, 17, 16, 15, 14, 4, 3, 2, 1, 0, 13, 8, 7, 6, 5, 12, 11, 10, 9, 23, 22, 21, 20], [15, 14, 4, 3, 2, 1, 0, 13, 8, 7, 6, 5, 12, 11, 10, 9, 24, 19, 18, 17, 16, 23, 22, 21, 20], [25, 15, 14, 4, 3, 2, 1, 0, 13, 8, 7, 6, 5, 12, 11, 10, 9, 24, 19, 18, 17, 16, 23, 22, 21, 20]] (by rfl) (by rfl) (by rfl) (by exact ⟨fun S hS hD hn => .one 0 hS hD hn rfl rfl (faP fa48_4 rfl) rfl rfl rfl, fun S hS hD hn => .one 0 hS hD hn rfl rfl (ldP rfl sz46 ag46 rfl) rfl rfl rfl, fun S hS hD hn => .one 0 hS hD hn rfl rfl (lnR (l := a1.Parts) sl46 rfl) rfl rfl rfl, fun S hS hD hn => .one 0 hS hD hn rfl rfl (eqI rfl rfl) rfl rfl rfl, fun S hS hD hn => .one 0 hS hD hn rfl rfl (mvV rfl) rfl rfl rfl, fun S hS hD hn => .one 0 hS hD hn (gT rfl rfl rfl (beq_iff_eq.mpr c9)) rfl (faP fa25_2 rfl) rfl rfl rfl, fun S hS hD hn => .one 0 hS hD hn (gT rfl rfl rfl (beq_iff_eq.mpr c9)) rfl (ldP rfl sz23 ag23 rfl) rfl rfl rfl, fun S hS hD hn => .one 0 hS hD hn (gT rfl rfl rfl (beq_iff_eq.mpr c9)) rfl (ixR (l := a0.Parts) (lit := TSpace.lit) sl23 rfl rfl TSpace.cells_lit (g13_7 c9).1 (g13_7 c9).2) rfl rfl rfl, fun S hS hD hn => .one 0 hS hD hn (gT rfl rfl rfl (beq_iff_eq.mpr c9)) rfl (ldCG rfl sz25 ag25 rfl) rfl rfl rfl, fun S hS hD hn => .one 0 hS hD hn (gT rfl rfl rfl (beq_iff_eq.mpr c9)) rfl (faP fa48_4 rfl) rfl rfl rfl, fun S hS hD hn => .one 0 hS hD hn (gT rfl rfl rfl (beq_iff_eq.mpr c9)) rfl (ldP rfl sz46 ag46 rfl) rfl rfl rfl, fun S hS hD hn => .one 0 hS hD hn (gT rfl rfl rfl (beq_iff_eq.mpr c9)) rfl (ixR (l := a1.Parts) (lit := TWeight.lit) sl46 rfl rfl TWeight.cells_lit (g13_11 c9).1 (g13_11 c9).2) rfl rfl rfl, fun S hS hD hn => .one 0 hS hD hn (gT rfl rfl rfl (beq_iff_eq.mpr c9)) rfl (ldCG rfl sz48 ag48 rfl) rfl rfl rfl, fun S hS hD hn => .oneI hS hD hn (gT rfl rfl rfl (beq_iff_eq.mpr c9)) rfl (callee_of rfl go82 rfl) (.pure rfl rfl (hs82 _ _ _ (g13_13 c9))) rfl rfl rfl, fun S hS hD hn => .one 0 hS hD hn rfl rfl (pkTV rfl (beq_iff_eq.mpr c9) rfl) rfl rfl rfl, fun S hS hD hn => .one 0 hS hD hn rfl rfl (mvV rfl) rfl rfl rfl, fun S hS hD hn => .one 0 hS hD hn (gT rfl rfl rfl c10) rfl (faP fa25_2 rfl) rfl rfl rfl, fun S hS hD hn => .one 0 hS hD hn (gT rfl rfl rfl c10) rfl (ldP rfl sz23 ag23 rfl) rfl rfl rfl, fun S hS hD hn => .one 0 hS hD hn (gT rfl rfl rfl c10) rfl (ixR (l := a0.Parts) (lit := TSpace.lit) sl23 rfl rfl TSpace.cells_lit (g13_18 c9 c10).1 (g13_18 c9 c10).2) rfl rfl rfl, fun S hS hD hn => .one 0 hS hD hn (gT rfl rfl rfl c10) rfl (ldCG rfl sz25 ag25 rfl) rfl rfl rfl, fun S hS hD hn => .one 0 hS hD hn (gT rfl rfl rfl c10) rfl (faP fa48_4 rfl) rfl rfl rfl, fun S hS hD hn => .one 0 hS hD hn (gT rfl rfl rfl c10) rfl (ldP rfl sz46 ag46 rfl) rfl rfl rfl, fun S hS hD hn => .one 0 hS hD hn (gT rfl rfl rfl c10) rfl (ixR (l := a1.Parts) (lit := TWeight.lit) sl46 rfl rfl TWeight.cells_lit (g13_22 c9 c10).1 (g13_22 c9 c10).2) rfl rfl rfl, fun S hS hD hn => .one 0 hS hD hn (gT rfl rfl rfl c10) rfl (ldCG rfl sz48 ag48 rfl) rfl rfl rfl, fun S hS hD hn => .oneI hS hD hn (gT rfl rfl rfl c10) rfl (callee_of rfl go82 rfl) (.pure rfl rfl (hs82 _ _ _ (g13_24 c9 c10))) rfl rfl rfl, fun S hS hD hn => .one 0 hS hD hn rfl rfl (pkTV rfl c10 rfl) rfl rfl rfl, fun S hS hD hn => .one 0 hS hD hn rfl rfl (asV rfl) rfl rfl rfl, trivial⟩) _ (by exact ⟨cB rfl (mAndT (beq_iff_eq.mpr c9) (mAndT c10 rfl)), trivial⟩) (by rfl)
                  · exact .drawM [(26, 4, .val (.bool false)), (25, 77, .val (.bool false)), (24, 76, .val undef), (23, 75, .val undef), (22, 74, .val undef), (21, 73, .val undef), (20, 72, .val undef), (19, 71, .val undef), (18, 70, .val undef), (17, 69, .val undef), (16, 68, .val undef), (15, 67, .val (.bool t13_13)), (14, 66, .val (.bool t13_13)), (13, 65, .val (.bool t13_13)), (12, 64, .agg (TWeight.lit (rdl a1.Parts 0))), (11, 63, .cptr (TWeight.lit (rdl a1.Parts 0)) 0), (10, 62, .rows (a1.Parts.map TWeight.cells)), (9, 61, .ptr 1 1 6 0 5), (8, 60, .agg (TSpace.lit (rdl a0.Parts 0))), (7, 59, .cptr (TSpace.lit (rdl a0.Parts 0)) 0), (6, 58, .rows (a0.Parts.map TSpace.cells)), (5, 57, .ptr 0 1 3 0 2), (4, 56, .val (.bool ((a1.Parts.length : Int) == 2))), (3, 55, .val (.bool ((a1.Parts.length : Int) == 2))), (2, 54, .val (.int .i64 (a1.Parts.length : Int))), (1, 53, .rows (a1.Parts.map TWeight.cells)), (0, 52, .ptr 1 1 6 0 5)] [] [[], [0], [1, 0], [2, 1, 0], [3, 2, 1, 0], [4, 3, 2, 1, 0], [5, 4, 3, 2, 1, 0], [6, 5, 4, 3, 2, 1, 0], [7, 6, 5, 4, 3, 2, 1, 0], [4, 3, 2, 1, 0], [9, 4, 3, 2, 1, 0], [10, 9, 4, 3, 2, 1, 0], [11, 10, 9, 4, 3, 2, 1, 0], [8, 7, 6, 5, 4, 3, 2, 1, 0, 12, 11, 10, 9], [4, 3, 2, 1, 0, 13, 8, 7, 6, 5, 12, 11, 10, 9], [14, 4, 3, 2, 1, 0, 13, 8, 7, 6, 5, 12, 11, 10, 9], [15, 14, 4, 3, 2, 1, 0, 13, 8, 7, 6, 5, 12, 11, 10, 9], [16, 15, 14, 4, 3, 2, 1, 0, 13, 8, 7, 6, 5, 12, 11, 10, 9], [17, 16, 15, 14, 4, 3, 2, 1, 0, 13, 8, 7, 6, 5, 12, 11, 10, 9], [18, 17, 16, 15, 14, 4, 3, 2, 1, 0, 13, 8, 7, 6, 5, 12, 11, 10, 9], [15, 14, 4, 3, 2, 1, 0, 13, 8, 7, 6, 5, 12, 11, 10, 9], [20, 15, 14, 4, 3, 2, 1, 0, 13, 8, 7, 6, 5, 12, 11, 10, 9], [21, 20, 15, 14, 4, 3, 2, 1, 0, 13, 8, 7, 6, 5, 12, 11, 10, 9], [22, 21, 20, 15, 14, 4, 3, 2, 1, 0, 13, 8, 7, 6, 5, 12, 11, 10, 9], [19, 18, 17, 16, 15, 14, 4, 3, 2, 1, 0, 13, 8, 7, 6, 5, 12, 11, 10, 9, 23, 22, 21, 20], [15, 14, 4, 3, 2, 1, 0, 13, 8, 7, 6, 5, 12, 11, 10, 9, 24, 19, 18, 17, 16, 23, 22, 21, 20], [25, 15, 14, 4, 3, 2, 1, 0, 13, 8, 7, 6, 5, 12, 11, 10, 9, 24, 19, 18, 17, 16, 23, 22, 21, 20]] (by rfl) (by rfl) (by rfl) (by exact ⟨fun S hS hD hn => .one 0 hS hD hn rfl rfl (faP fa48_4 rfl) rfl rfl rfl, fun S hS hD hn => .one 0 hS hD hn rfl rfl (ldP rfl sz46 ag46 rfl) rfl rfl rfl, fun S hS hD hn => .one 0 hS hD hn rfl rfl (lnR (l := a1.Parts) sl46 rfl) rfl rfl rfl, fun S hS hD hn => .one 0 hS hD hn rfl rfl (eqI rfl rfl) rfl rfl rfl, fun S hS hD hn => .one 0 hS hD hn rfl rfl (mvV rfl) rfl rfl rfl, fun S hS hD hn => .one 0 hS hD hn (gT rfl rfl rfl (beq_iff_eq.mpr c9)) rfl (faP fa25_2 rfl) rfl rfl rfl, fun S hS hD hn => .one 0 hS hD hn (gT rfl rfl rfl (beq_iff_eq.mpr c9)) rfl (ldP rfl sz23 ag23 rfl) rfl rfl rfl, fun S hS hD hn => .one 0 hS hD hn (gT rfl rfl rfl (beq_iff_eq.mpr c9)) rfl (ixR (l := a0.Parts) (lit := TSpace.lit) sl23 rfl rfl TSpace.cells_lit (g13_7 c9).1 (g13_7 c9).2) rfl rfl rfl, fun S hS hD hn => .one 0 hS hD hn (gT rfl rfl rfl (beq_iff_eq.mpr c9)) rfl (ldCG rfl sz25 ag25 rfl) rfl rfl rfl, fun S hS hD hn => .one 0 hS hD hn (gT rfl rfl rfl (beq_iff_eq.mpr c9)) rfl (faP fa48_4 rfl) rfl rfl rfl, fun S hS hD hn => .one 0 hS hD hn (gT rfl rfl rfl (beq_iff_eq.mpr c9)) rfl (ldP rfl sz46 ag46 rfl) rfl rfl rfl, fun S hS hD hn => .one 0 hS hD hn (gT rfl rfl rfl (beq_iff_eq.mpr c9)) rfl (ixR (l := a1.Parts) (lit := TWeight.lit) sl46 rfl rfl TWeight.cells_lit (g13_11 c9).1 (g13_11 c9).2) rfl rfl rfl, fun S hS hD hn => .one 0 hS hD hn (gT rfl rfl rfl (beq_iff_eq.mpr c9)) rfl (ldCG rfl sz48 ag48 rfl) rfl rfl rfl, fun S hS hD hn => .oneI hS hD hn (gT rfl rfl rfl (beq_iff_eq.mpr c9)) rfl (callee_of rfl go82 rfl) (.pure rfl rfl (hs82 _ _ _ (g13_13 c9))) rfl rfl rfl, fun S hS hD hn => .one 0 hS hD hn rfl rfl (pkTV rfl (beq_iff_eq.mpr c9) rfl) rfl rfl rfl, fun S hS hD hn => .one 0 hS hD hn rfl rfl (mvV rfl) rfl rfl rfl, fun S hS hD hn => .oneNo hS hD (gF rfl rfl rfl (Bool.eq_false_iff.mpr c10)) rfl hn rfl rfl rfl, fun S hS hD hn => .oneNo hS hD (gF rfl rfl rfl (Bool.eq_false_iff.mpr c10)) rfl hn rfl rfl rfl, fun S hS hD hn => .oneNo hS hD (gF rfl rfl rfl (Bool.eq_false_iff.mpr c10)) rfl hn rfl rfl rfl, fun S hS hD hn => .oneNo hS hD (gF rfl rfl rfl (Bool.eq_false_iff.mpr c10)) rfl hn rfl rfl rfl, fun S hS hD hn => .oneNo hS hD (gF rfl rfl rfl (Bool.eq_false_iff.mpr c10)) rfl hn rfl rfl rfl, fun S hS hD hn => .oneNo hS hD (gF rfl rfl rfl (Bool.eq_false_iff.mpr c10)) rfl hn rfl rfl rfl, fun S hS hD hn => .oneNo hS hD (gF rfl rfl rfl (Bool.eq_false_iff.mpr c10)) rfl hn rfl rfl rfl, fun S hS hD hn => .oneNo hS hD (gF rfl rfl rfl (Bool.eq_false_iff.mpr c10)) rfl hn rfl rfl rfl, fun S hS hD hn => .oneNo hS hD (gF rfl rfl rfl (Bool.eq_false_iff.mpr c10)) rfl hn rfl rfl rfl, fun S hS hD hn => .one 0 hS hD hn rfl rfl (pkFV rfl (Bool.eq_false_iff.mpr c10) rfl) rfl rfl rfl, fun S hS hD hn => .one 0 hS hD hn rfl rfl (asV rfl) rfl rfl rfl, trivial⟩) _ (by exact ⟨cB rfl (mAndT (beq_iff_eq.mpr c9) (mAndF (Bool.eq_false_iff.mpr c10))), trivial⟩) (by rfl)
                · exact .drawM [(26, 4, .val (.bool false)), (25, 77, .val (.bool false)), (24, 76, .val undef), (23, 75, .val undef), (22, 74, .val undef), (21, 73, .val undef), (20, 72, .val undef), (19, 71, .val undef), (18, 70, .val undef), (17, 69, .val undef), (16, 68, .val undef), (15, 67, .val (.bool false)), (14, 66, .val (.bool false)), (13, 65, .val undef), (12, 64, .val undef), (11, 63, .val undef), (10, 62, .val undef), (9, 61, .val undef), (8, 60, .val undef), (7, 59, .val undef), (6, 58, .val undef), (5, 57, .val undef), (4, 56, .val (.bool ((a1.Parts.length : Int) == 2))), (3, 55, .val (.bool ((a1.Parts.length : Int) == 2))), (2, 54, .val (.int .i64 (a1.Parts.length : Int))), (1, 53, .rows (a1.Parts.map TWeight.cells)), (0, 52, .ptr 1 1 6 0 5)] [] [[], [0], [1, 0], [2, 1, 0], [3, 2, 1, 0], [4, 3, 2, 1, 0], [5, 4, 3, 2, 1, 0], [6, 5, 4, 3, 2, 1, 0], [7, 6, 5, 4, 3, 2, 1, 0], [4, 3, 2, 1, 0], [9, 4, 3, 2, 1, 0], [10, 9, 4, 3, 2, 1, 0], [11, 10, 9, 4, 3, 2, 1, 0], [8, 7, 6, 5, 4, 3, 2, 1, 0, 12, 11, 10, 9], [4, 3, 2, 1, 0, 13, 8, 7, 6, 5, 12, 11, 10, 9], [14, 4, 3, 2, 1, 0, 13, 8, 7, 6, 5, 12, 11, 10, 9], [15, 14, 4, 3, 2, 1, 0, 13, 8, 7, 6, 5, 12, 11, 10, 9], [16, 15, 14, 4, 3, 2, 1, 0, 13, 8, 7, 6, 5, 12, 11, 10, 9], [17, 16, 15, 14, 4, 3, 2, 1, 0, 13, 8, 7, 6, 5, 12, 11, 10, 9], [18, 17, 16, 15, 14, 4, 3, 2, 1, 0, 13, 8, 7, 6, 5, 12, 11, 10, 9], [15, 14, 4, 3, 2, 1, 0, 13, 8, 7, 6, 5, 12, 11, 10, 9], [20, 15, 14, 4, 3, 2, 1, 0, 13, 8, 7, 6, 5, 12, 11, 10, 9], [21, 20, 15, 14, 4, 3, 2, 1, 0, 13, 8, 7, 6, 5, 12, 11, 10, 9], [22, 21, 20, 15, 14, 4, 3, 2, 1, 0, 13, 8, 7, 6, 5, 12, 11, 10, 9], [19, 18, 17, 16, 15, 14, 4, 3, 2, 1, 0, 13, 8, 7, 6, 5, 12, 11, 10, 9, 23, 22, 21, 20], [15, 14, 4, 3, 2, 1, 0, 13, 8, 7, 6, 5, 12, 11, 10, 9, 24, 19, 18, 17, 16, 23, 22, 21, 20], [25, 15, 14, 4, 3, 2, 1, 0, 13, 8, 7, 6, 5, 12, 11, 10, 9, 24, 19, 18, 17, 16, 23, 22, 21, 20]] (by rfl) (by rfl) (by rfl) (by exact ⟨fun S hS hD hn => .one 0 hS hD hn rfl rfl (faP fa48_4 rfl) rfl rfl rfl, fun S hS hD hn => .one 0 hS hD hn rfl rfl (ldP rfl sz46 ag46 rfl) rfl rfl rfl, fun S hS hD hn => .one 0 hS hD hn rfl rfl (lnR (l := a1.Parts) sl46 rfl) rfl rfl rfl, fun S hS hD hn => .one 0 hS hD hn rfl rfl (eqI rfl rfl) rfl rfl rfl, fun S hS hD hn => .one 0 hS hD hn rfl rfl (mvV rfl) rfl rfl rfl, fun S hS hD hn => .oneNo hS hD (gF rfl rfl rfl (beq_eq_false_iff_ne.mpr c9)) rfl hn rfl rfl rfl, fun S hS hD hn => .oneNo hS hD (gF rfl rfl rfl (beq_eq_false_iff_ne.mpr c9)) rfl hn rfl rfl rfl, fun S hS hD hn => .oneNo hS hD (gF rfl rfl rfl (beq_eq_false_iff_ne.mpr c9)) rfl hn rfl rfl rfl, fun S hS hD hn => .oneNo hS hD (gF rfl rfl rfl (beq_eq_false_iff_ne.mpr c9)) rfl hn rfl rfl rfl, fun S hS hD hn => .oneNo hS hD (gF rfl rfl rfl (beq_eq_false_iff_ne.mpr c9)) rfl hn rfl rfl rfl, fun S hS hD hn => .oneNo hS hD (gF rfl rfl rfl (beq_eq_false_iff_ne.mpr c9)) rfl hn rfl rfl rfl, fun S hS hD hn => .oneNo hS hD (gF rfl rfl rfl (beq_eq_false_iff_ne.mpr c9)) rfl hn rfl rfl rfl, fun S hS hD hn => .oneNo hS hD (gF rfl rfl rfl (beq_eq_false_iff_ne.mpr c9)) rfl hn rfl rfl rfl, fun S hS hD hn => .oneNo hS hD (gF rfl rfl rfl (beq_eq_false_iff_ne.mpr c9)) rfl hn rfl rfl rfl, fun S hS hD hn => .one 0 hS hD hn rfl rfl (pkFV rfl (beq_eq_false_iff_ne.mpr c9) rfl) rfl rfl rfl, fun S hS hD hn => .one 0 hS hD hn rfl rfl (mvV rfl) rfl rfl rfl, fun S hS hD hn => .oneNo hS hD (gF rfl rfl rfl rfl) rfl hn rfl rfl rfl, fun S hS hD hn => .oneNo hS hD (gF rfl rfl rfl rfl) rfl hn rfl rfl rfl, fun S hS hD hn => .oneNo hS hD (gF rfl rfl rfl rfl) rfl hn rfl rfl rfl, fun S hS hD hn => .oneNo hS hD (gF rfl rfl rfl rfl) rfl hn rfl rfl rfl, fun S hS hD hn => .oneNo hS hD (gF rfl rfl rfl rfl) rfl hn rfl rfl rfl, fun S hS hD hn => .oneNo hS hD (gF rfl rfl rfl rfl) rfl hn rfl rfl rfl, fun S hS hD hn => .oneNo hS hD (gF rfl rfl rfl rfl) rfl hn rfl rfl rfl, fun S hS hD hn => .oneNo hS hD (gF rfl rfl rfl rfl) rfl hn rfl rfl rfl, fun S hS hD hn => .oneNo hS hD (gF rfl rfl rfl rfl) rfl hn rfl rfl rfl, fun S hS hD hn => .one 0 hS hD hn rfl rfl (pkFV rfl rfl rfl) rfl rfl rfl, fun S hS hD hn => .one 0 hS hD hn rfl rfl (asV rfl) rfl rfl rfl, trivial⟩) _ (by exact ⟨cB rfl (mAndF (beq_eq_false_iff_ne.mpr c9)), trivial⟩) (by rfl)
              replace h := h.symm
              subst h
              refine .keepL [] [(4, .val (.bool (((a1.Parts.length : Int) == 2) && (t13_13 && t13_24))))] [] (by decide) (by decide) ⟨.free rfl rfl, trivial⟩ trivial ?_
              exact .ret rfl
            · rw [if_neg c8] at h
              refine .condF rfl (beq_eq_false_iff_ne.mpr c8) ?_
              refine .skip ?_
              refine .inBlock ?_
              refine .seq ?_
              refine .reg0 rfl (.op 0 rfl (asV rfl) <| .nil0) ?_
              replace h := h.symm
              subst h
              refine .keepL [] [(4, .val (.bool true))] [] (by decide) (by decide) ⟨.free rfl rfl, trivial⟩ trivial ?_
              exact .ret rfl
    · rw [if_neg c3] at h
      refine .condT rfl (bnotT (Bool.eq_false_iff.mpr c3)) ?_
      refine .seq ?_
      refine .reg0 rfl (.op 0 rfl (asV rfl) <| .nil0) ?_
      replace h := h.symm
      subst h
      refine .keepL [] [(4, .val (.bool false))] [] (by decide) (by decide) ⟨.free rfl rfl, trivial⟩ trivial ?_
      exact .ret rfl
def weight_is.fN : Nat → TSpace → TWeight → Bool → Prop
  | 0 => fun _ _ _ => False
  | n + 1 => weight_is.step (weight_is.fN n)
theorem weight_is.ND : ∀ (n : Nat) {a0 : TSpace} {a1 : TWeight} {r : Bool} (h : weight_is.fN n a0 a1 r), D Try.prog X (.callH 82 [.agg (TSpace.lit a0), .agg (TWeight.lit a1)] [] (.val (.bool r)) [])
  | 0, _, _, _, h => h.elim
  | n + 1, _, _, _, h => weight_is.stepD (fun _ _ _ h => weight_is.ND n h) h
def weight_is.f (a0 : TSpace) (a1 : TWeight) (r : Bool) : Prop := ∃ n, weight_is.fN n a0 a1 r
theorem weight_is.D {a0 : TSpace} {a1 : TWeight} {r : Bool} (h : weight_is.f a0 a1 r) : D Try.prog X (.callH 82 [.agg (TSpace.lit a0), .agg (TWeight.lit a1)] [] (.val (.bool r)) []) := by obtain ⟨n, h⟩ := h; exact weight_is.ND n h
def weight_checked_1.f (a0 : TWeight) (f0 : TSpace) (r : Bool) : Prop :=
  ∃ t2_2 : Bool, (weight_is.f f0 a0 t2_2) ∧ r = (!t2_2)
theorem weight_checked_1.D {a0 : TWeight} {f0 : TSpace} {r : Bool} (h : weight_checked_1.f a0 f0 r) : D Try.prog X (.callH 81 [.agg (TWeight.lit a0), .cptr (TSpace.lit f0) 0] [] (.val (.bool r)) []) := by
  unfold weight_checked_1.f at h
  refine .enter 8 0 fn81 rfl rfl rfl ?_
  refine .seq ?_
  refine .room 0 ?_
  refine .reg0 rfl (.op 0 rfl (bxP (s := 6) (cs := (TWeight.lit a0)) rfl ⟨rfl, by decide, rfl⟩ rfl) <| .op 0 rfl (asV rfl) <| .nil0) ?_
  refine .seq ?_
  obtain ⟨t2_2, g2_2, h⟩ := h
  refine .reg0 rfl (.op 0 rfl (ldCG rfl sz25 ag25 rfl) <| .op 0 rfl (ldG rfl sz48 ag48 rfl) <| .callI rfl (callee_of rfl go82 rfl) (.pure rfl rfl (weight_is.D g2_2)) <| .op 0 rfl (notB rfl) <| .op 0 rfl (asV rfl) <| .nil0) ?_
  replace h := h.symm
  subst h
  refine .keepL [] [(3, .val (.bool (!t2_2)))] [] (by decide) (by decide) ⟨.free rfl rfl, trivial⟩ trivial ?_
  exact .ret rfl
def weight_checked.f (a0 : TSpace) (a1 : List TWeight) (r : Int) : Prop :=
  ∃ t2_1 : Int, (weight_Space.f a0 t2_1) ∧ if t2_1 = 0 then (∃ t4_2 : Bool, (slices_ContainsFunc_Weight.f a1 (fun x0_ y_ => weight_checked_1.f x0_ a0 y_) t4_2) ∧ if t4_2 = true then (r = 51) else (r = 0)) else (r = t2_1)
theorem weight_checked.D {a0 : TSpace} {a1 : List TWeight} {r : Int} (h : weight_checked.f a0 a1 r) : D Try.prog X (.callH 66 [.agg (TSpace.lit a0), .rows (a1.map TWeight.cells)] [] (.val (.int .i64 r)) []) := by
  unfold weight_checked.f at h
  refine .enter 14 0 fn66 rfl rfl rfl ?_
  refine .seq ?_
  refine .room 0 ?_
  refine .reg0 rfl (.op 0 rfl (bxP (s := 3) (cs := (TSpace.lit a0)) rfl ⟨rfl, by decide, rfl⟩ rfl) <| .op 0 rfl (asV rfl) <| .nil0) ?_
  refine .seq ?_
  refine .seq ?_
  obtain ⟨t2_1, g2_1, h⟩ := h
  refine .reg0 rfl (.op 0 rfl (ldG rfl sz25 ag25 rfl) <| .callI rfl (callee_of rfl go45 rfl) (.pure rfl rfl (weight_Space.D g2_1)) <| .op 0 rfl (asV rfl) <| .nil0) ?_
  refine .seq ?_
  refine .reg0 rfl (.op 0 rfl (mvV rfl) <| .op 0 rfl (neI rfl rfl) <| .nil0) ?_
  by_cases c1 : t2_1 = 0
  · rw [if_pos c1] at h
    refine .condF rfl (bne_eq_false_iff_eq.mpr c1) ?_
    refine .skip ?_
    refine .seq ?_
    refine .seq ?_
    obtain ⟨t4_2, g4_2, h⟩ := h
    refine .reg0 rfl (.op 0 rfl (mvR rfl) <| .op 0 rfl (mkF rfl) <| .callI rfl (callee_of rfl go80 rfl) (.lendC (args' := [.rows (a1.map TWeight.cells), .clo 81 [.cptr (TSpace.lit a0) 0]])  [0] false (.cons (.free rfl rfl) <| .cons (cClo (.cons (cFixP rfl rfl (.cons (.free rfl rfl) <| .cons (.free rfl rfl) <| .cons (.free rfl rfl) <| .nil)) <| .nil)) <| .nil) (by decide) rfl rfl rfl rfl (slices_ContainsFunc_Weight.D (k1_ := [.cptr (TSpace.lit a0) 0]) go81 rfl rfl (fun x0_ y_ h_ => weight_checked_1.D h_) g4_2)) <| .nil0) ?_
    by_cases c2 : t4_2 = true
    · rw [if_pos c2] at h
      refine .condT rfl c2 ?_
      refine .seq ?_
      refine .reg0 rfl (.op 0 rfl (asV rfl) <| .nil0) ?_
      replace h := h.symm
      subst h
      refine .keepL [] [(4, .val (.int .i64 51))] [] (by decide) (by decide) ⟨.free rfl rfl, trivial⟩ trivial ?_
      exact .ret rfl
    · rw [if_neg c2] at h
      refine .condF rfl (Bool.eq_false_iff.mpr c2) ?_
      refine .skip ?_
      refine .seq ?_
      refine .reg0 rfl (.op 0 rfl (asV rfl) <| .nil0) ?_
      replace h := h.symm
      subst h
      refine .keepL [] [(4, .val (.int .i64 0))] [] (by decide) (by decide) ⟨.free rfl rfl, trivial⟩ trivial ?_
      exact .ret rfl
  · rw [if_neg c1] at h
    refine .condT rfl (bne_iff_ne.mpr c1) ?_
    refine .seq ?_
    refine .reg0 rfl (.op 0 rfl (mvV rfl) <| .op 0 rfl (asV rfl) <| .nil0) ?_
    replace h := h.symm
    subst h
    refine .keepL [] [(4, .val (.int .i64 t2_1))] [] (by decide) (by decide) ⟨.free rfl rfl, trivial⟩ trivial ?_
    exact .ret rfl
def weight_Check.f (a0 : TSpace) (a1 : TWeight) (r : Int) : Prop :=
  ∃ t2_3 : Int, (weight_checked.f a0 [a1] t2_3) ∧ r = t2_3
theorem weight_Check.D {a0 : TSpace} {a1 : TWeight} {r : Int} (h : weight_Check.f a0 a1 r) : D Try.prog X (.callH 49 [.agg (TSpace.lit a0), .agg (TWeight.lit a1)] [] (.val (.int .i64 r)) []) := by
  unfold weight_Check.f at h
  refine .enter 9 0 fn49 rfl rfl rfl ?_
  refine .seq ?_
  refine .room 0 ?_
  refine .room 0 ?_
  refine .reg0 rfl (.op 0 rfl (bxP (s := 3) (cs := (TSpace.lit a0)) rfl ⟨rfl, by decide, rfl⟩ rfl) <| .op 1 rfl (bxP (s := 6) (cs := (TWeight.lit a1)) rfl ⟨rfl, by decide, rfl⟩ rfl) <| .op 0 rfl (asV rfl) <| .nil0) ?_
  refine .seq ?_
  obtain ⟨t2_3, g2_3, h⟩ := h
  refine .room 0 ?_
  refine .reg0 rfl (.op 0 rfl (ldG rfl sz25 ag25 rfl) <| .op 0 rfl (ldG rfl sz48 ag48 rfl) <| .op 2 rfl (bldT (s := 6) (cs := [.val (.bool a1.Zero), .val (.int .i64 a1.Cost), .val (.int .u64 a1.Facts.Gen), .rows (a1.Facts.Rows.map (cInt .u64)), .rows (a1.Cells.map TCell.cells), .rows (a1.Parts.map TWeight.cells)]) (cf := TWeight.cells) [a1] un46 sz48 ze48 ⟨by decide, rfl, by decide⟩ rfl rfl rfl (by simp only [List.map, TWeight.cells_lit]; rfl) rfl) <| .callI rfl (callee_of rfl go66 rfl) (.lendC (args' := [.agg (TSpace.lit a0), .rows ([a1].map TWeight.cells)])  [2] false (.cons (.free rfl rfl) <| .cons (cFixO (l := [a1]) sl46 rfl rfl rfl rfl) <| .nil) (by decide) rfl rfl rfl rfl (weight_checked.D g2_3)) <| .op 0 rfl (asV rfl) <| .nil0) ?_
  replace h := h.symm
  subst h
  refine .keepL [] [(4, .val (.int .i64 t2_3))] [] (by decide) (by decide) ⟨.free rfl rfl, trivial⟩ trivial ?_
  exact .ret rfl
def pds_Check.b1 (a0 : TPds) : Int → Rnd Int Unit Int → Prop := fun x1 z1 => if x1 < (a0.Rules.length : Int) then (((InR x1 a0.Rules.length)) ∧ ∃ t25_4 : Int, (weight_Check.f a0.Space ((rdl a0.Rules x1).F) t25_4) ∧ if t25_4 = 0 then (z1 = .next (IntKind.i64.wrap (x1 + 1))) else (z1 = .ret t25_4)) else (z1 = .exit ())
def pds_Check.f (a0 : TPds) (r : Int) : Prop :=
  ∃ t2_2 : Int, (weight_Space.f a0.Space t2_2) ∧ if t2_2 = 0 then (if (a0.Rules.length : Int) > 16384 then (r = 3) else (if ((decide (a0.States < 0)) || ((decide (a0.States > 4096)) || ((decide (a0.Symbols < 0)) || (decide (a0.Symbols > 4096))))) = true then (r = 110) else (∃ t8_3 : Bool, (slices_ContainsFunc_Rule.f a0.Rules (fun x0_ y_ => pds_Check_1.f x0_ a0 y_) t8_3) ∧ if t8_3 = true then (r = 110) else (∃ o1 : Fin Unit Int, Loop (pds_Check.b1 a0) 0 o1 ∧ o1.on (fun _ => r = 0) (fun r_ => r = r_))))) else (r = t2_2)
theorem pds_Check.D {a0 : TPds} {r : Int} (h : pds_Check.f a0 r) : D Try.prog X (.callH 31 [.agg (TPds.lit a0)] [] (.val (.int .i64 r)) []) := by
  unfold pds_Check.f at h
  refine .enter 55 0 fn31 rfl rfl rfl ?_
  refine .seq ?_
  refine .room 0 ?_
  refine .reg0 rfl (.op 0 rfl (bxP (s := 6) (cs := (TPds.lit a0)) rfl ⟨rfl, by decide, rfl⟩ rfl) <| .op 0 rfl (asV rfl) <| .nil0) ?_
  refine .seq ?_
  refine .seq ?_
  obtain ⟨t2_2, g2_2, h⟩ := h
  refine .reg0 rfl (.op 0 rfl (faP fa28_0 rfl) <| .op 0 rfl (ldG rfl sz25 ag25 rfl) <| .callI rfl (callee_of rfl go45 rfl) (.pure rfl rfl (weight_Space.D g2_2)) <| .op 0 rfl (asV rfl) <| .nil0) ?_
  refine .seq ?_
  refine .reg0 rfl (.op 0 rfl (mvV rfl) <| .op 0 rfl (neI rfl rfl) <| .nil0) ?_
  by_cases c1 : t2_2 = 0
  · rw [if_pos c1] at h
    refine .condF rfl (bne_eq_false_iff_eq.mpr c1) ?_
    refine .skip ?_
    refine .seq ?_
    refine .seq ?_
    refine .reg0 rfl (.op 0 rfl (faP fa28_3 rfl) <| .op 0 rfl (ldP rfl sz26 ag26 rfl) <| .op 0 rfl (lnR (l := a0.Rules) sl26 rfl) <| .op 0 rfl (gtI rfl rfl) <| .nil0) ?_
    by_cases c2 : (a0.Rules.length : Int) > 16384
    · rw [if_pos c2] at h
      refine .condT rfl (decide_eq_true c2) ?_
      refine .seq ?_
      refine .reg0 rfl (.op 0 rfl (asV rfl) <| .nil0) ?_
      replace h := h.symm
      subst h
      refine .keepL [] [(2, .val (.int .i64 3))] [] (by decide) (by decide) ⟨.free rfl rfl, trivial⟩ trivial ?_
      exact .ret rfl
    · rw [if_neg c2] at h
      refine .condF rfl (decide_eq_false c2) ?_
      refine .skip ?_
      refine .seq ?_
      refine .seq ?_
      refine .reg0 (e1 := listEnv [(1, .ptr 0 1 6 0 0), (34, .val (.bool ((decide (a0.States < 0)) || ((decide (a0.States > 4096)) || ((decide (a0.Symbols < 0)) || (decide (a0.Symbols > 4096)))))))]) (H1 := [⟨6, [(TPds.lit a0)], 0, none⟩]) rfl ?_ ?_
      · by_cases c3 : a0.States < 0
        · exact (.op 0 rfl (faP fa28_1 rfl) <| .op 0 rfl (ldP rfl sz3 ag3 rfl) <| .op 0 rfl (ltI rfl rfl) <| .op 0 rfl (mvV rfl) <| .no (gF rfl rfl rfl (decide_eq_true c3)) <| .no (gF rfl rfl rfl (decide_eq_true c3)) <| .no (gF rfl rfl rfl (decide_eq_true c3)) <| .op 0 rfl (pkTV rfl (decide_eq_true c3) rfl) <| .op 0 rfl (mvV rfl) <| .no (gF rfl rfl rfl rfl) <| .no (gF rfl rfl rfl rfl) <| .no (gF rfl rfl rfl rfl) <| .op 0 rfl (pkTV rfl rfl rfl) <| .op 0 rfl (mvV rfl) <| .no (gF rfl rfl rfl rfl) <| .no (gF rfl rfl rfl rfl) <| .no (gF rfl rfl rfl rfl) <| .op 0 rfl (pkTV rfl rfl rfl) <| .nilL _ ⟨.ptr rfl, cB rfl (mOrT (decide_eq_true c3)), trivial⟩)
        · by_cases c4 : a0.States > 4096
          · exact (.op 0 rfl (faP fa28_1 rfl) <| .op 0 rfl (ldP rfl sz3 ag3 rfl) <| .op 0 rfl (ltI rfl rfl) <| .op 0 rfl (mvV rfl) <| .op 0 (gT rfl rfl rfl (decide_eq_false c3)) (faP fa28_1 rfl) <| .op 0 (gT rfl rfl rfl (decide_eq_false c3)) (ldP rfl sz3 ag3 rfl) <| .op 0 (gT rfl rfl rfl (decide_eq_false c3)) (gtI rfl rfl) <| .op 0 rfl (pkFV rfl (decide_eq_false c3) rfl) <| .op 0 rfl (mvV rfl) <| .no (gF rfl rfl rfl (decide_eq_true c4)) <| .no (gF rfl rfl rfl (decide_eq_true c4)) <| .no (gF rfl rfl rfl (decide_eq_true c4)) <| .op 0 rfl (pkTV rfl (decide_eq_true c4) rfl) <| .op 0 rfl (mvV rfl) <| .no (gF rfl rfl rfl rfl) <| .no (gF rfl rfl rfl rfl) <| .no (gF rfl rfl rfl rfl) <| .op 0 rfl (pkTV rfl rfl rfl) <| .nilL _ ⟨.ptr rfl, cB rfl (mOrF (decide_eq_false c3) (mOrT (decide_eq_true c4))), trivial⟩)
          · by_cases c5 : a0.Symbols < 0
            · exact (.op 0 rfl (faP fa28_1 rfl) <| .op 0 rfl (ldP rfl sz3 ag3 rfl) <| .op 0 rfl (ltI rfl rfl) <| .op 0 rfl (mvV rfl) <| .op 0 (gT rfl rfl rfl (decide_eq_false c3)) (faP fa28_1 rfl) <| .op 0 (gT rfl rfl rfl (decide_eq_false c3)) (ldP rfl sz3 ag3 rfl) <| .op 0 (gT rfl rfl rfl (decide_eq_false c3)) (gtI rfl rfl) <| .op 0 rfl (pkFV rfl (decide_eq_false c3) rfl) <| .op 0 rfl (mvV rfl) <| .op 0 (gT rfl rfl rfl (decide_eq_false c4)) (faP fa28_2 rfl) <| .op 0 (gT rfl rfl rfl (decide_eq_false c4)) (ldP rfl sz3 ag3 rfl) <| .op 0 (gT rfl rfl rfl (decide_eq_false c4)) (ltI rfl rfl) <| .op 0 rfl (pkFV rfl (decide_eq_false c4) rfl) <| .op 0 rfl (mvV rfl) <| .no (gF rfl rfl rfl (decide_eq_true c5)) <| .no (gF rfl rfl rfl (decide_eq_true c5)) <| .no (gF rfl rfl rfl (decide_eq_true c5)) <| .op 0 rfl (pkTV rfl (decide_eq_true c5) rfl) <| .nilL _ ⟨.ptr rfl, cB rfl (mOrF (decide_eq_false c3) (mOrF (decide_eq_false c4) (mOrT (decide_eq_true c5)))), trivial⟩)
            · exact (.op 0 rfl (faP fa28_1 rfl) <| .op 0 rfl (ldP rfl sz3 ag3 rfl) <| .op 0 rfl (ltI rfl rfl) <| .op 0 rfl (mvV rfl) <| .op 0 (gT rfl rfl rfl (decide_eq_false c3)) (faP fa28_1 rfl) <| .op 0 (gT rfl rfl rfl (decide_eq_false c3)) (ldP rfl sz3 ag3 rfl) <| .op 0 (gT rfl rfl rfl (decide_eq_false c3)) (gtI rfl rfl) <| .op 0 rfl (pkFV rfl (decide_eq_false c3) rfl) <| .op 0 rfl (mvV rfl) <| .op 0 (gT rfl rfl rfl (decide_eq_false c4)) (faP fa28_2 rfl) <| .op 0 (gT rfl rfl rfl (decide_eq_false c4)) (ldP rfl sz3 ag3 rfl) <| .op 0 (gT rfl rfl rfl (decide_eq_false c4)) (ltI rfl rfl) <| .op 0 rfl (pkFV rfl (decide_eq_false c4) rfl) <| .op 0 rfl (mvV rfl) <| .op 0 (gT rfl rfl rfl (decide_eq_false c5)) (faP fa28_2 rfl) <| .op 0 (gT rfl rfl rfl (decide_eq_false c5)) (ldP rfl sz3 ag3 rfl) <| .op 0 (gT rfl rfl rfl (decide_eq_false c5)) (gtI rfl rfl) <| .op 0 rfl (pkFV rfl (decide_eq_false c5) rfl) <| .nilL _ ⟨.ptr rfl, cB rfl (mOrF (decide_eq_false c3) (mOrF (decide_eq_false c4) (mOrF (decide_eq_false c5) rfl))), trivial⟩)
      by_cases c6 : ((decide (a0.States < 0)) || ((decide (a0.States > 4096)) || ((decide (a0.Symbols < 0)) || (decide (a0.Symbols > 4096))))) = true
      · rw [if_pos c6] at h
        refine .condT rfl c6 ?_
        refine .seq ?_
        refine .reg0 rfl (.op 0 rfl (asV rfl) <| .nil0) ?_
        replace h := h.symm
        subst h
        refine .keepL [] [(2, .val (.int .i64 110))] [] (by decide) (by decide) ⟨.free rfl rfl, trivial⟩ trivial ?_
        exact .ret rfl
      · rw [if_neg c6] at h
        refine .condF rfl (Bool.eq_false_iff.mpr c6) ?_
        refine .skip ?_
        refine .seq ?_
        refine .seq ?_
        obtain ⟨t8_3, g8_3, h⟩ := h
        refine .reg0 rfl (.op 0 rfl (faP fa28_3 rfl) <| .op 0 rfl (ldP rfl sz26 ag26 rfl) <| .op 0 rfl (mkF rfl) <| .callI rfl (callee_of rfl go46 rfl) (.lendC (args' := [.rows (a0.Rules.map TRule.cells), .clo 47 [.cptr (TPds.lit a0) 0]])  [0] false (.cons (.free rfl rfl) <| .cons (cClo (.cons (cFixP rfl rfl (.cons (.free rfl rfl) <| .cons (.free rfl rfl) <| .cons (.free rfl rfl) <| .cons (.free rfl rfl) <| .cons (.free rfl rfl) <| .cons (.free rfl rfl) <| .nil)) <| .nil)) <| .nil) (by decide) rfl rfl rfl rfl (slices_ContainsFunc_Rule.D (k1_ := [.cptr (TPds.lit a0) 0]) go47 rfl rfl (fun x0_ y_ h_ => pds_Check_1.D h_) g8_3)) <| .nil0) ?_
        by_cases c7 : t8_3 = true
        · rw [if_pos c7] at h
          refine .condT rfl c7 ?_
          refine .seq ?_
          refine .reg0 rfl (.op 0 rfl (asV rfl) <| .nil0) ?_
          replace h := h.symm
          subst h
          refine .keepL [] [(2, .val (.int .i64 110))] [] (by decide) (by decide) ⟨.free rfl rfl, trivial⟩ trivial ?_
          exact .ret rfl
        · rw [if_neg c7] at h
          refine .condF rfl (Bool.eq_false_iff.mpr c7) ?_
          refine .skip ?_
          refine .seq ?_
          refine .seq ?_
          refine .reg0 rfl (.op 0 rfl (faP fa28_3 rfl) <| .op 0 rfl (ldP rfl sz26 ag26 rfl) <| .op 0 rfl (lnR (l := a0.Rules) sl26 rfl) <| .op 0 rfl (mvV rfl) <| .nil0) ?_
          refine .block ?_
          refine .keepL [0] [(1, .ptr 0 1 6 0 0), (40, .rows (a0.Rules.map TRule.cells)), (41, .val (.int .i64 (a0.Rules.length : Int))), (42, .val (.int .i64 0))] [⟨6, [(TPds.lit a0)], 0, none⟩] (by decide) (by decide) ⟨.ptr rfl, .free rfl rfl, .free rfl rfl, .free rfl rfl, trivial⟩ ⟨⟨_, rfl, bcBox (all2_free rfl)⟩, trivial⟩ ?_
          obtain ⟨o1, hL1, h⟩ := h
          refine .loopB (pds_Check.b1 a0) (fun x1 => listEnv [(1, .ptr 0 1 6 0 0), (40, .rows (a0.Rules.map TRule.cells)), (41, .val (.int .i64 (a0.Rules.length : Int))), (42, .val (.int .i64 x1))]) (fun x1 => [⟨6, [(TPds.lit a0)], 0, none⟩]) (fun _ => listEnv []) (fun _ => []) hL1 (fun r_ => r = r_) ?_ ?_ ?_
          · rintro ⟨⟩ rfl
            try dsimp only [Fin.on] at h
            refine .seq ?_
            refine .reg0 rfl (.op 0 rfl (asV rfl) <| .nil0) ?_
            replace h := h.symm
            subst h
            refine .keepL [] [(2, .val (.int .i64 0))] [] (by decide) (by decide) ⟨.free rfl rfl, trivial⟩ trivial ?_
            exact .ret rfl
          · rintro r_ rfl
            exact h
          · rintro x1 z1 h hn1 hx1 hr1
            dsimp only [pds_Check.b1] at h
            refine .seq ?_
            refine .reg0 rfl (.op 0 rfl (ltI rfl rfl) <| .nil0) ?_
            refine .seq ?_
            by_cases c12 : x1 < (a0.Rules.length : Int)
            · rw [if_pos c12] at h
              refine .condT rfl (decide_eq_true c12) ?_
              refine .skip ?_
              refine .seq ?_
              refine .block ?_
              refine .seq ?_
              obtain ⟨g24_0, h⟩ := h
              refine .room 0 ?_
              refine .reg0 rfl (.op 0 rfl (ixR (l := a0.Rules) (lit := TRule.lit) sl26 rfl rfl (fun _ => rfl) g24_0.1 g24_0.2) <| .op 0 rfl (ldCG rfl sz77 ag77 rfl) <| .op 1 rfl (alP (s := 10) ze77 ⟨rfl, by decide, rfl⟩ rfl) <| .op 0 rfl (stB (cs0 := [.val (.int .i64 0), .val (.int .i64 0), .val (.int .i64 0), .val (.slice none 0 0), .val (.bool false), .val (.int .i64 0), .val (.int .u64 0), .val (.slice none 0 0), .val (.slice none 0 0), .val (.slice none 0 0)]) (cs := (TRule.lit (rdl a0.Rules x1))) (cs1 := (TRule.lit (rdl a0.Rules x1))) rfl rfl sz77 rfl ⟨Nat.le_of_ble_eq_true rfl, rfl⟩ rfl) <| .nil0) ?_
              refine .seq ?_
              obtain ⟨t25_4, g25_4, h⟩ := h
              refine .reg0 rfl (.op 0 rfl (faP fa28_0 rfl) <| .op 0 rfl (ldG rfl sz25 ag25 rfl) <| .op 0 rfl (faP fa77_4 rfl) <| .op 0 rfl (ldG rfl sz48 ag48 rfl) <| .callI rfl (callee_of rfl go49 rfl) (.pure rfl rfl (weight_Check.D g25_4)) <| .op 0 rfl (asV rfl) <| .nil0) ?_
              refine .seq ?_
              refine .reg0 rfl (.op 0 rfl (mvV rfl) <| .op 0 rfl (neI rfl rfl) <| .nil0) ?_
              by_cases c13 : t25_4 = 0
              · rw [if_pos c13] at h
                refine .condF rfl (bne_eq_false_iff_eq.mpr c13) ?_
                refine .skip ?_
                refine .inBlock ?_
                refine .reg0 rfl (.op 0 rfl (addI rfl rfl) <| .op 0 rfl (mvV rfl) <| .nil0) ?_
                refine .keepL [0] [(1, .ptr 0 1 6 0 0), (40, .rows (a0.Rules.map TRule.cells)), (41, .val (.int .i64 (a0.Rules.length : Int))), (42, .val (.int .i64 (IntKind.i64.wrap (x1 + 1))))] [⟨6, [(TPds.lit a0)], 0, none⟩] (by decide) (by decide) ⟨.ptr rfl, .free rfl rfl, .free rfl rfl, .free rfl rfl, trivial⟩ ⟨⟨_, rfl, bcBox (all2_free rfl)⟩, trivial⟩ ?_
                exact hn1 _ h
              · rw [if_neg c13] at h
                refine .condT rfl (bne_iff_ne.mpr c13) ?_
                refine .seq ?_
                refine .reg0 rfl (.op 0 rfl (mvV rfl) <| .op 0 rfl (asV rfl) <| .nil0) ?_
                have q3 := hr1 _ h
                replace q3 := q3.symm
                subst q3
                refine .keepL [] [(2, .val (.int .i64 t25_4))] [] (by decide) (by decide) ⟨.free rfl rfl, trivial⟩ trivial ?_
                exact .ret rfl
            · rw [if_neg c12] at h
              refine .condF rfl (decide_eq_false c12) ?_
              refine .exit rfl ?_
              refine .keepL [] [] [] (by decide) (by decide) trivial trivial ?_
              exact hx1 _ h
  · rw [if_neg c1] at h
    refine .condT rfl (bne_iff_ne.mpr c1) ?_
    refine .seq ?_
    refine .reg0 rfl (.op 0 rfl (mvV rfl) <| .op 0 rfl (asV rfl) <| .nil0) ?_
    replace h := h.symm
    subst h
    refine .keepL [] [(2, .val (.int .i64 t2_2))] [] (by decide) (by decide) ⟨.free rfl rfl, trivial⟩ trivial ?_
    exact .ret rfl
def steps_Check.b1 (a0 : TPds) (a1 : TConf) : Int → Rnd Int Unit Int → Prop := fun x1 z1 => if x1 < (a1.W.length : Int) then (((InR x1 a1.W.length)) ∧ if ((decide ((rdl a1.W x1) < 0)) || (decide ((rdl a1.W x1) ≥ a0.Symbols))) = true then (z1 = .ret 120) else (z1 = .next (IntKind.i64.wrap (x1 + 1)))) else (z1 = .exit ())
def steps_Check.f (a0 : TPds) (a1 : TConf) (r : Int) : Prop :=
  ∃ t2_1 : Int, (pds_Check.f a0 t2_1) ∧ if t2_1 = 0 then (if ((decide (a1.P < 0)) || ((decide (a1.P ≥ a0.States)) || (decide ((a1.W.length : Int) > 4096)))) = true then (r = 120) else (∃ o1 : Fin Unit Int, Loop (steps_Check.b1 a0 a1) 0 o1 ∧ o1.on (fun _ => r = 0) (fun r_ => r = r_))) else (r = t2_1)
theorem steps_Check.D {a0 : TPds} {a1 : TConf} {r : Int} (h : steps_Check.f a0 a1 r) : D Try.prog X (.callH 18 [.agg (TPds.lit a0), .agg (TConf.lit a1)] [] (.val (.int .i64 r)) []) := by
  unfold steps_Check.f at h
  refine .enter 45 0 fn18 rfl rfl rfl ?_
  refine .seq ?_
  refine .room 0 ?_
  refine .room 0 ?_
  refine .reg0 rfl (.op 0 rfl (bxP (s := 6) (cs := (TPds.lit a0)) rfl ⟨rfl, by decide, rfl⟩ rfl) <| .op 1 rfl (bxP (s := 2) (cs := (TConf.lit a1)) rfl ⟨rfl, by decide, rfl⟩ rfl) <| .op 0 rfl (asV rfl) <| .nil0) ?_
  refine .seq ?_
  refine .seq ?_
  obtain ⟨t2_1, g2_1, h⟩ := h
  refine .reg0 rfl (.op 0 rfl (ldG rfl sz28 ag28 rfl) <| .callI rfl (callee_of rfl go31 rfl) (.pure rfl rfl (pds_Check.D g2_1)) <| .op 0 rfl (asV rfl) <| .nil0) ?_
  refine .seq ?_
  refine .reg0 rfl (.op 0 rfl (mvV rfl) <| .op 0 rfl (neI rfl rfl) <| .nil0) ?_
  by_cases c1 : t2_1 = 0
  · rw [if_pos c1] at h
    refine .condF rfl (bne_eq_false_iff_eq.mpr c1) ?_
    refine .skip ?_
    refine .seq ?_
    refine .seq ?_
    refine .reg0 (e1 := listEnv [(2, .ptr 0 1 6 0 0), (3, .ptr 1 1 2 0 0), (28, .val (.bool ((decide (a1.P < 0)) || ((decide (a1.P ≥ a0.States)) || (decide ((a1.W.length : Int) > 4096))))))]) (H1 := [⟨6, [(TPds.lit a0)], 0, none⟩, ⟨2, [(TConf.lit a1)], 0, none⟩]) rfl ?_ ?_
    · by_cases c2 : a1.P < 0
      · exact (.op 0 rfl (faP fa31_0 rfl) <| .op 0 rfl (ldP rfl sz3 ag3 rfl) <| .op 0 rfl (ltI rfl rfl) <| .op 0 rfl (mvV rfl) <| .no (gF rfl rfl rfl (decide_eq_true c2)) <| .no (gF rfl rfl rfl (decide_eq_true c2)) <| .no (gF rfl rfl rfl (decide_eq_true c2)) <| .no (gF rfl rfl rfl (decide_eq_true c2)) <| .no (gF rfl rfl rfl (decide_eq_true c2)) <| .op 0 rfl (pkTV rfl (decide_eq_true c2) rfl) <| .op 0 rfl (mvV rfl) <| .no (gF rfl rfl rfl rfl) <| .no (gF rfl rfl rfl rfl) <| .no (gF rfl rfl rfl rfl) <| .no (gF rfl rfl rfl rfl) <| .op 0 rfl (pkTV rfl rfl rfl) <| .nilL _ ⟨.ptr rfl, .ptr rfl, cB rfl (mOrT (decide_eq_true c2)), trivial⟩)
      · by_cases c3 : a1.P ≥ a0.States
        · exact (.op 0 rfl (faP fa31_0 rfl) <| .op 0 rfl (ldP rfl sz3 ag3 rfl) <| .op 0 rfl (ltI rfl rfl) <| .op 0 rfl (mvV rfl) <| .op 0 (gT rfl rfl rfl (decide_eq_false c2)) (faP fa31_0 rfl) <| .op 0 (gT rfl rfl rfl (decide_eq_false c2)) (ldP rfl sz3 ag3 rfl) <| .op 0 (gT rfl rfl rfl (decide_eq_false c2)) (faP fa28_1 rfl) <| .op 0 (gT rfl rfl rfl (decide_eq_false c2)) (ldP rfl sz3 ag3 rfl) <| .op 0 (gT rfl rfl rfl (decide_eq_false c2)) (geI rfl rfl) <| .op 0 rfl (pkFV rfl (decide_eq_false c2) rfl) <| .op 0 rfl (mvV rfl) <| .no (gF rfl rfl rfl (decide_eq_true c3)) <| .no (gF rfl rfl rfl (decide_eq_true c3)) <| .no (gF rfl rfl rfl (decide_eq_true c3)) <| .no (gF rfl rfl rfl (decide_eq_true c3)) <| .op 0 rfl (pkTV rfl (decide_eq_true c3) rfl) <| .nilL _ ⟨.ptr rfl, .ptr rfl, cB rfl (mOrF (decide_eq_false c2) (mOrT (decide_eq_true c3))), trivial⟩)
        · exact (.op 0 rfl (faP fa31_0 rfl) <| .op 0 rfl (ldP rfl sz3 ag3 rfl) <| .op 0 rfl (ltI rfl rfl) <| .op 0 rfl (mvV rfl) <| .op 0 (gT rfl rfl rfl (decide_eq_false c2)) (faP fa31_0 rfl) <| .op 0 (gT rfl rfl rfl (decide_eq_false c2)) (ldP rfl sz3 ag3 rfl) <| .op 0 (gT rfl rfl rfl (decide_eq_false c2)) (faP fa28_1 rfl) <| .op 0 (gT rfl rfl rfl (decide_eq_false c2)) (ldP rfl sz3 ag3 rfl) <| .op 0 (gT rfl rfl rfl (decide_eq_false c2)) (geI rfl rfl) <| .op 0 rfl (pkFV rfl (decide_eq_false c2) rfl) <| .op 0 rfl (mvV rfl) <| .op 0 (gT rfl rfl rfl (decide_eq_false c3)) (faP fa31_1 rfl) <| .op 0 (gT rfl rfl rfl (decide_eq_false c3)) (ldP rfl sz29 ag29 rfl) <| .op 0 (gT rfl rfl rfl (decide_eq_false c3)) (lnR (l := a1.W) sl29 rfl) <| .op 0 (gT rfl rfl rfl (decide_eq_false c3)) (gtI rfl rfl) <| .op 0 rfl (pkFV rfl (decide_eq_false c3) rfl) <| .nilL _ ⟨.ptr rfl, .ptr rfl, cB rfl (mOrF (decide_eq_false c2) (mOrF (decide_eq_false c3) rfl)), trivial⟩)
    by_cases c4 : ((decide (a1.P < 0)) || ((decide (a1.P ≥ a0.States)) || (decide ((a1.W.length : Int) > 4096)))) = true
    · rw [if_pos c4] at h
      refine .condT rfl c4 ?_
      refine .seq ?_
      refine .reg0 rfl (.op 0 rfl (asV rfl) <| .nil0) ?_
      replace h := h.symm
      subst h
      refine .keepL [] [(4, .val (.int .i64 120))] [] (by decide) (by decide) ⟨.free rfl rfl, trivial⟩ trivial ?_
      exact .ret rfl
    · rw [if_neg c4] at h
      refine .condF rfl (Bool.eq_false_iff.mpr c4) ?_
      refine .skip ?_
      refine .seq ?_
      refine .seq ?_
      refine .reg0 rfl (.op 0 rfl (faP fa31_1 rfl) <| .op 0 rfl (ldP rfl sz29 ag29 rfl) <| .op 0 rfl (lnR (l := a1.W) sl29 rfl) <| .op 0 rfl (mvV rfl) <| .nil0) ?_
      refine .block ?_
      refine .keepL [0] [(2, .ptr 0 1 6 0 0), (30, .rows (a1.W.map (cInt .i64))), (31, .val (.int .i64 (a1.W.length : Int))), (32, .val (.int .i64 0))] [⟨6, [(TPds.lit a0)], 0, none⟩] (by decide) (by decide) ⟨.ptr rfl, .free rfl rfl, .free rfl rfl, .free rfl rfl, trivial⟩ ⟨⟨_, rfl, bcBox (all2_free rfl)⟩, trivial⟩ ?_
      obtain ⟨o1, hL1, h⟩ := h
      refine .loopB (steps_Check.b1 a0 a1) (fun x1 => listEnv [(2, .ptr 0 1 6 0 0), (30, .rows (a1.W.map (cInt .i64))), (31, .val (.int .i64 (a1.W.length : Int))), (32, .val (.int .i64 x1))]) (fun x1 => [⟨6, [(TPds.lit a0)], 0, none⟩]) (fun _ => listEnv []) (fun _ => []) hL1 (fun r_ => r = r_) ?_ ?_ ?_
      · rintro ⟨⟩ rfl
        try dsimp only [Fin.on] at h
        refine .seq ?_
        refine .reg0 rfl (.op 0 rfl (asV rfl) <| .nil0) ?_
        replace h := h.symm
        subst h
        refine .keepL [] [(4, .val (.int .i64 0))] [] (by decide) (by decide) ⟨.free rfl rfl, trivial⟩ trivial ?_
        exact .ret rfl
      · rintro r_ rfl
        exact h
      · rintro x1 z1 h hn1 hx1 hr1
        dsimp only [steps_Check.b1] at h
        refine .seq ?_
        refine .reg0 rfl (.op 0 rfl (ltI rfl rfl) <| .nil0) ?_
        refine .seq ?_
        by_cases c11 : x1 < (a1.W.length : Int)
        · rw [if_pos c11] at h
          refine .condT rfl (decide_eq_true c11) ?_
          refine .skip ?_
          refine .seq ?_
          refine .block ?_
          refine .seq ?_
          obtain ⟨g18_0, h⟩ := h
          refine .reg0 rfl (.op 0 rfl (ixR (l := a1.W) (lit := (cInt .i64)) sl29 rfl rfl (fun _ => rfl) g18_0.1 g18_0.2) <| .op 0 rfl (ldC rfl sz3 ag3 rfl) <| .op 0 rfl (asV rfl) <| .nil0) ?_
          refine .seq ?_
          refine .reg0 (e1 := listEnv [(2, .ptr 0 1 6 0 0), (30, .rows (a1.W.map (cInt .i64))), (31, .val (.int .i64 (a1.W.length : Int))), (32, .val (.int .i64 x1)), (43, .val (.bool ((decide ((rdl a1.W x1) < 0)) || (decide ((rdl a1.W x1) ≥ a0.Symbols)))))]) (H1 := [⟨6, [(TPds.lit a0)], 0, none⟩]) rfl ?_ ?_
          · by_cases c12 : (rdl a1.W x1) < 0
            · exact (.op 0 rfl (mvV rfl) <| .op 0 rfl (ltI rfl rfl) <| .op 0 rfl (mvV rfl) <| .no (gF rfl rfl rfl (decide_eq_true c12)) <| .no (gF rfl rfl rfl (decide_eq_true c12)) <| .no (gF rfl rfl rfl (decide_eq_true c12)) <| .no (gF rfl rfl rfl (decide_eq_true c12)) <| .op 0 rfl (pkTV rfl (decide_eq_true c12) rfl) <| .nilL _ ⟨.ptr rfl, .free rfl rfl, .free rfl rfl, .free rfl rfl, cB rfl (mOrT (decide_eq_true c12)), trivial⟩)
            · exact (.op 0 rfl (mvV rfl) <| .op 0 rfl (ltI rfl rfl) <| .op 0 rfl (mvV rfl) <| .op 0 (gT rfl rfl rfl (decide_eq_false c12)) (mvV rfl) <| .op 0 (gT rfl rfl rfl (decide_eq_false c12)) (faP fa28_2 rfl) <| .op 0 (gT rfl rfl rfl (decide_eq_false c12)) (ldP rfl sz3 ag3 rfl) <| .op 0 (gT rfl rfl rfl (decide_eq_false c12)) (geI rfl rfl) <| .op 0 rfl (pkFV rfl (decide_eq_false c12) rfl) <| .nilL _ ⟨.ptr rfl, .free rfl rfl, .free rfl rfl, .free rfl rfl, cB rfl (mOrF (decide_eq_false c12) rfl), trivial⟩)
          by_cases c13 : ((decide ((rdl a1.W x1) < 0)) || (decide ((rdl a1.W x1) ≥ a0.Symbols))) = true
          · rw [if_pos c13] at h
            refine .condT rfl c13 ?_
            refine .seq ?_
            refine .reg0 rfl (.op 0 rfl (asV rfl) <| .nil0) ?_
            have q3 := hr1 _ h
            replace q3 := q3.symm
            subst q3
            refine .keepL [] [(4, .val (.int .i64 120))] [] (by decide) (by decide) ⟨.free rfl rfl, trivial⟩ trivial ?_
            exact .ret rfl
          · rw [if_neg c13] at h
            refine .condF rfl (Bool.eq_false_iff.mpr c13) ?_
            refine .skip ?_
            refine .inBlock ?_
            refine .reg0 rfl (.op 0 rfl (addI rfl rfl) <| .op 0 rfl (mvV rfl) <| .nil0) ?_
            refine .keepL [0] [(2, .ptr 0 1 6 0 0), (30, .rows (a1.W.map (cInt .i64))), (31, .val (.int .i64 (a1.W.length : Int))), (32, .val (.int .i64 (IntKind.i64.wrap (x1 + 1))))] [⟨6, [(TPds.lit a0)], 0, none⟩] (by decide) (by decide) ⟨.ptr rfl, .free rfl rfl, .free rfl rfl, .free rfl rfl, trivial⟩ ⟨⟨_, rfl, bcBox (all2_free rfl)⟩, trivial⟩ ?_
            exact hn1 _ h
        · rw [if_neg c11] at h
          refine .condF rfl (decide_eq_false c11) ?_
          refine .exit rfl ?_
          refine .keepL [] [] [] (by decide) (by decide) trivial trivial ?_
          exact hx1 _ h
  · rw [if_neg c1] at h
    refine .condT rfl (bne_iff_ne.mpr c1) ?_
    refine .seq ?_
    refine .reg0 rfl (.op 0 rfl (mvV rfl) <| .op 0 rfl (asV rfl) <| .nil0) ?_
    replace h := h.symm
    subst h
    refine .keepL [] [(4, .val (.int .i64 t2_1))] [] (by decide) (by decide) ⟨.free rfl rfl, trivial⟩ trivial ?_
    exact .ret rfl
def slices_Clone_Space.f (a0 : List TSpace) (r : (List TSpace)) : Prop :=
  if a0.length = 0 then (∀ (z_ : Option Addr) (k_ : Nat), if z_.isNone = true then (r = []) else (((Fits (0 + 0) 40)) ∧ r = [])) else (((Fits (0 + a0.length) 40)) ∧ r = a0)
theorem slices_Clone_Space.D {a0 : List TSpace} {r : (List TSpace)} (h : slices_Clone_Space.f a0 r) : D Try.prog X (.callH 34 [.rows (a0.map TSpace.cells)] [] (.rows (r.map TSpace.cells)) []) := by
  unfold slices_Clone_Space.f at h
  by_cases c0_ : a0.length = 0
  · rw [if_pos c0_] at h
    have e0_ := List.eq_nil_of_length_eq_zero c0_
    subst e0_
    refine .nilQ [] [] fun z_ k_ => ?_
    replace h := h z_ k_
    refine .enter 8 0 fn34 rfl rfl rfl ?_
    refine .seq ?_
    refine .reg0 rfl (.op 0 rfl (asV rfl) <| .nil0) ?_
    refine .seq ?_
    refine .seq ?_
    refine .reg0 rfl (.op 0 rfl (mvV rfl) <| .op 0 rfl (eqEN un23 rfl rfl) <| .nil0) ?_
    by_cases c1 : z_.isNone = true
    · rw [if_pos c1] at h
      refine .condT rfl c1 ?_
      refine .seq ?_
      refine .reg0 rfl (.op 0 rfl (asV rfl) <| .nil0) ?_
      replace h := h.symm
      subst h
      refine .keepL [] [(2, .rows (([] : List TSpace).map TSpace.cells))] [] (by decide) (by decide) ⟨.nil, trivial⟩ trivial ?_
      exact .ret rfl
    · rw [if_neg c1] at h
      refine .condF rfl (Bool.eq_false_iff.mpr c1) ?_
      refine .skip ?_
      refine .seq ?_
      obtain ⟨g4_2, h⟩ := h
      refine .room 0 ?_
      refine .room 0 ?_
      refine .reg0 rfl (.op 0 rfl (bldL (s := 3) (cs := []) un23 sz25 ze25 ⟨by decide, rfl, by decide⟩ rfl rfl rfl rfl) <| .op 0 rfl (mvV rfl) <| .op 0 rfl (apL (l := []) [] sl23 rfl rfl rfl (Nat.zero_le _) rfl g4_2) <| .op 0 rfl (asO rfl) <| .nil0) ?_
      replace h := h.symm
      subst h
      refine .keepL [] [(2, .rows ([].map TSpace.cells))] [] (by decide) (by decide) ⟨cFixO (l := []) sl23 rfl rfl rfl rfl, trivial⟩ trivial ?_
      exact .ret rfl
  · rw [if_neg c0_] at h
    refine .enter 8 0 fn34 rfl rfl rfl ?_
    refine .seq ?_
    refine .reg0 rfl (.op 0 rfl (asV rfl) <| .nil0) ?_
    refine .seq ?_
    refine .seq ?_
    refine .reg0 rfl (.op 0 rfl (mvR rfl) <| .op 0 rfl (eqRN c0_ un23 rfl rfl) <| .nil0) ?_
    refine .condF rfl rfl ?_
    refine .skip ?_
    refine .seq ?_
    obtain ⟨g7_2, h⟩ := h
    refine .room 0 ?_
    refine .room 0 ?_
    refine .reg0 rfl (.op 0 rfl (bldL (s := 3) (cs := []) un23 sz25 ze25 ⟨by decide, rfl, by decide⟩ rfl rfl rfl rfl) <| .op 0 rfl (mvR rfl) <| .op 0 rfl (apL (l := []) a0 sl23 rfl rfl rfl (Nat.zero_le _) rfl g7_2) <| .op 0 rfl (asO rfl) <| .nil0) ?_
    replace h := h.symm
    subst h
    refine .keepL [] [(2, .rows (a0.map TSpace.cells))] [] (by decide) (by decide) ⟨cFixO (l := a0) sl23 rfl rfl rfl rfl, trivial⟩ trivial ?_
    exact .ret rfl
def facts_One.b1 (a0 : Int) : ((List Int) × Int) → Rnd (((List Int) × Int)) ((List Int)) (TFacts × Int) → Prop := fun (x1, x2) z1 => if x2 < ((List.replicate (Int.toNat a0) (0 : Int)).length : Int) then ((((0 : Int) ≤ (IntKind.u64.wrap x2))) ∧ ((InR x2 x1.length)) ∧ z1 = .next ((setl x1 x2 (shlI .u64 1 (IntKind.u64.wrap x2))), (IntKind.i64.wrap (x2 + 1)))) else (z1 = .exit x1)
def facts_One.f (a0 : Int) (r : TFacts × Int) : Prop :=
  ∃ t2_1 : Int × Int, (bits_Full.f a0 t2_1) ∧ if t2_1.2 = 0 then ((((0 : Int) ≤ a0 ∧ Fits a0 8)) ∧ ∃ o1 : Fin ((List Int)) (TFacts × Int), Loop (facts_One.b1 a0) ((List.replicate (Int.toNat a0) (0 : Int)), 0) o1 ∧ o1.on (fun x3 => r = ((TFacts.mk 0 x3), 0)) (fun r_ => r = r_)) else (r = ((TFacts.mk 0 []), 31))
theorem facts_One.D {a0 : Int} {r : TFacts × Int} (h : facts_One.f a0 r) : D Try.prog X (.callH 67 [.val (.int .i64 a0)] [] (.tuple [.agg (TFacts.lit r.1), .val (.int .i64 r.2)]) []) := by
  unfold facts_One.f at h
  refine .enter 34 0 fn67 rfl rfl rfl ?_
  refine .seq ?_
  refine .room 0 ?_
  refine .reg0 rfl (.op 0 rfl (alP (s := 2) ze44 ⟨rfl, by decide, rfl⟩ rfl) <| .op 0 rfl (asV rfl) <| .nil0) ?_
  refine .seq ?_
  refine .seq ?_
  obtain ⟨t2_1, g2_1, h⟩ := h
  refine .reg0 rfl (.op 0 rfl (mvV rfl) <| .callI rfl (callee_of rfl go83 rfl) (.pure rfl rfl (bits_Full.D g2_1)) <| .op 0 rfl (mvT rfl) <| .op 0 rfl (exT rfl rfl) <| .op 0 rfl (exT rfl rfl) <| .op 0 rfl (asV rfl) <| .op 0 rfl (asV rfl) <| .nil0) ?_
  refine .seq ?_
  refine .reg0 rfl (.op 0 rfl (mvV rfl) <| .op 0 rfl (neI rfl rfl) <| .nil0) ?_
  by_cases c1 : t2_1.2 = 0
  · rw [if_pos c1] at h
    refine .condF rfl (bne_eq_false_iff_eq.mpr c1) ?_
    refine .skip ?_
    refine .seq ?_
    obtain ⟨g4_1, h⟩ := h
    refine .room 0 ?_
    refine .room 0 ?_
    refine .reg0 rfl (.op 0 rfl (mvV rfl) <| .op 1 rfl (mkS (z0 := (0 : Int)) sl42 un42 ze41 rfl rfl g4_1.1 g4_1.2 rfl) <| .op 0 rfl (bldS (cs := [.val (.int .u64 0), .own 1 ((List.replicate (Int.toNat a0) (0 : Int)).length)]) ze44 pl44 rfl rfl) <| .op 2 rfl (alP (s := 2) ze44 ⟨rfl, by decide, rfl⟩ rfl) <| .op 0 rfl (stB (cs0 := [.val (.int .u64 0), .val (.slice none 0 0)]) (cs := [.val (.int .u64 0), .own 1 ((List.replicate (Int.toNat a0) (0 : Int)).length)]) (cs1 := [.val (.int .u64 0), .own 1 ((List.replicate (Int.toNat a0) (0 : Int)).length)]) rfl rfl sz44 rfl ⟨Nat.le_of_ble_eq_true rfl, rfl⟩ rfl) <| .nil0) ?_
    refine .seq ?_
    refine .seq ?_
    refine .reg0 rfl (.op 0 rfl (faP fa44_1 rfl) <| .op 0 rfl (ldP rfl sz42 ag42 rfl) <| .op 0 rfl (lnO (l := (List.replicate (Int.toNat a0) (0 : Int))) sl42 rfl rfl rfl) <| .op 0 rfl (mvV rfl) <| .nil0) ?_
    refine .block ?_
    refine .keepL [0, 2, 1] [(2, .ptr 0 1 2 0 0), (6, .ptr 1 1 2 0 0), (21, .val (.int .i64 ((List.replicate (Int.toNat a0) (0 : Int)).length : Int))), (22, .val (.int .i64 0))] [⟨2, [[.val (.int .u64 0), .val (.slice none 0 0)]], 0, none⟩, ⟨2, [[.val (.int .u64 0), .own 2 ((List.replicate (Int.toNat a0) (0 : Int)).length)]], 0, none⟩, ⟨1, (List.replicate (Int.toNat a0) (0 : Int)).map (cInt .u64), 0, none⟩] (by decide) (by decide) ⟨.ptr rfl, .ptr rfl, .free rfl rfl, .free rfl rfl, trivial⟩ ⟨⟨_, rfl, bcBox (all2_free rfl)⟩, ⟨_, rfl, bcBox (.cons (.free rfl rfl) <| .cons (.own rfl) <| .nil)⟩, ⟨_, rfl, bcRow (l := (List.replicate (Int.toNat a0) (0 : Int))) sl42 (Nat.le_refl _) rfl⟩, trivial⟩ ?_
    obtain ⟨o1, hL1, h⟩ := h
    refine .loopB (facts_One.b1 a0) (fun (x1, x2) => listEnv [(2, .ptr 0 1 2 0 0), (6, .ptr 1 1 2 0 0), (21, .val (.int .i64 ((List.replicate (Int.toNat a0) (0 : Int)).length : Int))), (22, .val (.int .i64 x2))]) (fun (x1, x2) => [⟨2, [[.val (.int .u64 0), .val (.slice none 0 0)]], 0, none⟩, ⟨2, [[.val (.int .u64 0), .own 2 x1.length]], 0, none⟩, ⟨1, x1.map (cInt .u64), 0, none⟩]) (fun x3 => listEnv [(2, .ptr 0 1 2 0 0), (6, .ptr 1 1 2 0 0)]) (fun x3 => [⟨2, [[.val (.int .u64 0), .val (.slice none 0 0)]], 0, none⟩, ⟨2, [[.val (.int .u64 0), .own 2 x3.length]], 0, none⟩, ⟨1, x3.map (cInt .u64), 0, none⟩]) hL1 (fun r_ => r = r_) ?_ ?_ ?_
    · rintro x3 rfl
      try dsimp only [Fin.on] at h
      refine .seq ?_
      refine .reg0 rfl (.op 0 rfl (ldG rfl sz44 ag44 rfl) <| .op 0 rfl (stB (cs0 := [.val (.int .u64 0), .val (.slice none 0 0)]) (cs := [.val (.int .u64 0), .own 2 x3.length]) (cs1 := [.val (.int .u64 0), .own 2 x3.length]) rfl rfl sz44 rfl ⟨Nat.le_of_ble_eq_true rfl, rfl⟩ rfl) <| .op 0 rfl (asV rfl) <| .nil0) ?_
      replace h := h.symm
      subst h
      refine .keepL [] [(2, .cptr [.val (.int .u64 0), .rows (x3.map (cInt .u64))] 0), (3, .val (.int .i64 0))] [] (by decide) (by decide) ⟨cFixP rfl rfl (.cons (.free rfl rfl) <| .cons (cFixO (l := x3) sl42 rfl rfl rfl rfl) <| .nil), .free rfl rfl, trivial⟩ trivial ?_
      exact .ret rfl
    · rintro r_ rfl
      exact h
    · rintro ⟨x1, x2⟩ z1 h hn1 hx1 hr1
      dsimp only [facts_One.b1] at h
      refine .seq ?_
      refine .reg0 rfl (.op 0 rfl (ltI rfl rfl) <| .nil0) ?_
      refine .seq ?_
      by_cases c4 : x2 < ((List.replicate (Int.toNat a0) (0 : Int)).length : Int)
      · rw [if_pos c4] at h
        refine .condT rfl (decide_eq_true c4) ?_
        refine .skip ?_
        refine .seq ?_
        refine .block ?_
        refine .seq ?_
        refine .reg0 rfl (.op 0 rfl (mvV rfl) <| .op 0 rfl (asV rfl) <| .nil0) ?_
        obtain ⟨g16_5, h⟩ := h
        obtain ⟨g16_6, h⟩ := h
        refine .reg0 rfl (.op 0 rfl (faP fa44_1 rfl) <| .op 0 rfl (ldP rfl sz42 ag42 rfl) <| .op 0 rfl (mvV rfl) <| .op 0 rfl (mvV rfl) <| .op 0 rfl (convI un3 un121 rfl) <| .op 0 rfl (shl_ rfl rfl g16_5) <| .op 0 rfl (ixO (l := x1) sl42 rfl rfl rfl rfl g16_6.1 g16_6.2) <| .op 0 rfl (stO (l := x1) (j := x2) (cs := [.val (.int .u64 (shlI .u64 1 (IntKind.u64.wrap x2)))]) (shlI .u64 1 (IntKind.u64.wrap x2)) sl42 rfl rfl sz41 rfl rfl g16_6.1 g16_6.2 (Nat.zero_le _) ⟨Nat.le_of_ble_eq_true rfl, rfl⟩ rfl) <| .nil0) ?_
        refine .inBlock ?_
        refine .reg0 rfl (.op 0 rfl (addI rfl rfl) <| .op 0 rfl (mvV rfl) <| .nil0) ?_
        refine .keepL [0, 1, 2] [(2, .ptr 0 1 2 0 0), (6, .ptr 1 1 2 0 0), (21, .val (.int .i64 ((List.replicate (Int.toNat a0) (0 : Int)).length : Int))), (22, .val (.int .i64 (IntKind.i64.wrap (x2 + 1))))] [⟨2, [[.val (.int .u64 0), .val (.slice none 0 0)]], 0, none⟩, ⟨2, [[.val (.int .u64 0), .own 2 ((setl x1 x2 (shlI .u64 1 (IntKind.u64.wrap x2))).length)]], 0, none⟩, ⟨1, (setl x1 x2 (shlI .u64 1 (IntKind.u64.wrap x2))).map (cInt .u64), 0, none⟩] (by decide) (by decide) ⟨.ptr rfl, .ptr rfl, .free rfl rfl, .free rfl rfl, trivial⟩ ⟨⟨_, rfl, bcBox (all2_free rfl)⟩, ⟨_, rfl, bcBox (.cons (.free rfl rfl) <| .cons (cOwnE rfl (by simp only [setl, List.length_set])) <| .nil)⟩, ⟨_, rfl, bcRow (l := (setl x1 x2 (shlI .u64 1 (IntKind.u64.wrap x2)))) sl42 (Nat.le_refl _) rfl⟩, trivial⟩ ?_
        exact hn1 _ h
      · rw [if_neg c4] at h
        refine .condF rfl (decide_eq_false c4) ?_
        refine .exit rfl ?_
        refine .keepL [0, 1, 2] [(2, .ptr 0 1 2 0 0), (6, .ptr 1 1 2 0 0)] [⟨2, [[.val (.int .u64 0), .val (.slice none 0 0)]], 0, none⟩, ⟨2, [[.val (.int .u64 0), .own 2 x1.length]], 0, none⟩, ⟨1, x1.map (cInt .u64), 0, none⟩] (by decide) (by decide) ⟨.ptr rfl, .ptr rfl, trivial⟩ ⟨⟨_, rfl, bcBox (all2_free rfl)⟩, ⟨_, rfl, bcBox (.cons (.free rfl rfl) <| .cons (.own rfl) <| .nil)⟩, ⟨_, rfl, bcRow (l := x1) sl42 (Nat.le_refl _) rfl⟩, trivial⟩ ?_
        exact hx1 _ h
  · rw [if_neg c1] at h
    refine .condT rfl (bne_iff_ne.mpr c1) ?_
    refine .seq ?_
    refine .reg0 rfl (.op 0 rfl (bldS (cs := [.val (.int .u64 0), .val (.slice none 0 0)]) ze44 pl44 rfl rfl) <| .op 0 rfl (stB (cs0 := [.val (.int .u64 0), .val (.slice none 0 0)]) (cs := [.val (.int .u64 0), .val (.slice none 0 0)]) (cs1 := [.val (.int .u64 0), .val (.slice none 0 0)]) rfl rfl sz44 rfl ⟨Nat.le_of_ble_eq_true rfl, rfl⟩ rfl) <| .op 0 rfl (asV rfl) <| .nil0) ?_
    replace h := h.symm
    subst h
    refine .keepL [] [(2, .cptr [.val (.int .u64 0), .rows (([] : List Int).map (cInt .u64))] 0), (3, .val (.int .i64 31))] [] (by decide) (by decide) ⟨cFixP rfl rfl (.cons (.free rfl rfl) <| .cons (.nil) <| .nil), .free rfl rfl, trivial⟩ trivial ?_
    exact .ret rfl
def cells_one.b1 (a0 : Int) : ((List TCell) × Int) → Rnd (((List TCell) × Int)) ((List TCell)) ((List TCell)) → Prop := fun (x1, x2) z1 => if x2 < a0 then ((((0 : Int) ≤ x2)) ∧ ((InR x2 x1.length)) ∧ z1 = .next ((setl x1 x2 (TCell.mk (shlI .u64 1 x2) ((rdl x1 x2).Kind) ((rdl x1 x2).K))), (IntKind.i64.wrap (x2 + 1)))) else (z1 = .exit x1)
def cells_one.f (a0 : Int) (r : (List TCell)) : Prop :=
  (((0 : Int) ≤ a0 ∧ Fits a0 24)) ∧ ∃ o1 : Fin ((List TCell)) ((List TCell)), Loop (cells_one.b1 a0) ((List.replicate (Int.toNat a0) (TCell.mk 0 0 0)), 0) o1 ∧ o1.on (fun x3 => r = x3) (fun r_ => r = r_)
theorem cells_one.D {a0 : Int} {r : (List TCell)} (h : cells_one.f a0 r) : D Try.prog X (.callH 85 [.val (.int .i64 a0)] [] (.rows (r.map TCell.cells)) []) := by
  unfold cells_one.f at h
  refine .enter 19 0 fn85 rfl rfl rfl ?_
  refine .seq ?_
  refine .reg0 rfl (.op 0 rfl (asV rfl) <| .nil0) ?_
  refine .seq ?_
  obtain ⟨g2_1, h⟩ := h
  refine .room 0 ?_
  refine .reg0 rfl (.op 0 rfl (mvV rfl) <| .op 0 rfl (mkS (z0 := (TCell.mk 0 0 0)) sl45 un45 ze72 rfl rfl g2_1.1 g2_1.2 rfl) <| .op 0 rfl (asO rfl) <| .nil0) ?_
  refine .seq ?_
  refine .seq ?_
  refine .reg0 rfl (.op 0 rfl (mvV rfl) <| .op 0 rfl (mvV rfl) <| .nil0) ?_
  refine .block ?_
  refine .keepL [0] [(3, .own 0 ((List.replicate (Int.toNat a0) (TCell.mk 0 0 0)).length)), (7, .val (.int .i64 a0)), (8, .val (.int .i64 0))] [⟨3, (List.replicate (Int.toNat a0) (TCell.mk 0 0 0)).map TCell.cells, 0, none⟩] (by decide) (by decide) ⟨.own rfl, .free rfl rfl, .free rfl rfl, trivial⟩ ⟨⟨_, rfl, bcRow (l := (List.replicate (Int.toNat a0) (TCell.mk 0 0 0))) sl45 (Nat.le_refl _) rfl⟩, trivial⟩ ?_
  obtain ⟨o1, hL1, h⟩ := h
  refine .loopB (cells_one.b1 a0) (fun (x1, x2) => listEnv [(3, .own 0 x1.length), (7, .val (.int .i64 a0)), (8, .val (.int .i64 x2))]) (fun (x1, x2) => [⟨3, x1.map TCell.cells, 0, none⟩]) (fun x3 => listEnv [(3, .own 0 x3.length)]) (fun x3 => [⟨3, x3.map TCell.cells, 0, none⟩]) hL1 (fun r_ => r = r_) ?_ ?_ ?_
  · rintro x3 rfl
    try dsimp only [Fin.on] at h
    refine .seq ?_
    refine .reg0 rfl (.op 0 rfl (mvO rfl) <| .op 0 rfl (asO rfl) <| .nil0) ?_
    replace h := h.symm
    subst h
    refine .keepL [] [(2, .rows (x3.map TCell.cells))] [] (by decide) (by decide) ⟨cFixO (l := x3) sl45 rfl rfl rfl rfl, trivial⟩ trivial ?_
    exact .ret rfl
  · rintro r_ rfl
    exact h
  · rintro ⟨x1, x2⟩ z1 h hn1 hx1 hr1
    dsimp only [cells_one.b1] at h
    refine .seq ?_
    refine .reg0 rfl (.op 0 rfl (ltI rfl rfl) <| .nil0) ?_
    refine .seq ?_
    by_cases c3 : x2 < a0
    · rw [if_pos c3] at h
      refine .condT rfl (decide_eq_true c3) ?_
      refine .skip ?_
      refine .seq ?_
      refine .block ?_
      refine .seq ?_
      refine .reg0 rfl (.op 0 rfl (mvV rfl) <| .op 0 rfl (asV rfl) <| .nil0) ?_
      obtain ⟨g14_3, h⟩ := h
      obtain ⟨g14_4, h⟩ := h
      refine .reg0 rfl (.op 0 rfl (mvO rfl) <| .op 0 rfl (mvV rfl) <| .op 0 rfl (mvV rfl) <| .op 0 rfl (shl_ rfl rfl g14_3) <| .op 0 rfl (ixO (l := x1) sl45 rfl rfl rfl rfl g14_4.1 g14_4.2) <| .op 0 rfl (faP fa72_0 rfl) <| .op 0 rfl (stO (l := x1) (j := x2) (cs := [.val (.int .u64 (shlI .u64 1 x2))]) (TCell.mk (shlI .u64 1 x2) ((rdl x1 x2).Kind) ((rdl x1 x2).K)) sl45 rfl rfl sz41 rfl rfl g14_4.1 g14_4.2 (Nat.zero_le _) ⟨Nat.le_of_ble_eq_true rfl, rfl⟩ rfl) <| .nil0) ?_
      refine .inBlock ?_
      refine .reg0 rfl (.op 0 rfl (addI rfl rfl) <| .op 0 rfl (mvV rfl) <| .nil0) ?_
      refine .keepL [0] [(3, .own 0 ((setl x1 x2 (TCell.mk (shlI .u64 1 x2) ((rdl x1 x2).Kind) ((rdl x1 x2).K))).length)), (7, .val (.int .i64 a0)), (8, .val (.int .i64 (IntKind.i64.wrap (x2 + 1))))] [⟨3, (setl x1 x2 (TCell.mk (shlI .u64 1 x2) ((rdl x1 x2).Kind) ((rdl x1 x2).K))).map TCell.cells, 0, none⟩] (by decide) (by decide) ⟨cOwnE rfl (by simp only [setl, List.length_set]), .free rfl rfl, .free rfl rfl, trivial⟩ ⟨⟨_, rfl, bcRow (l := (setl x1 x2 (TCell.mk (shlI .u64 1 x2) ((rdl x1 x2).Kind) ((rdl x1 x2).K)))) sl45 (Nat.le_refl _) rfl⟩, trivial⟩ ?_
      exact hn1 _ h
    · rw [if_neg c3] at h
      refine .condF rfl (decide_eq_false c3) ?_
      refine .exit rfl ?_
      refine .keepL [0] [(3, .own 0 x1.length)] [⟨3, x1.map TCell.cells, 0, none⟩] (by decide) (by decide) ⟨.own rfl, trivial⟩ ⟨⟨_, rfl, bcRow (l := x1) sl45 (Nat.le_refl _) rfl⟩, trivial⟩ ?_
      exact hx1 _ h
def cells_One.f (a0 : Int) (r : (List TCell) × Int) : Prop :=
  ∃ t2_1 : Int, (cells_dims.f a0 t2_1) ∧ if t2_1 = 0 then (∃ t4_1 : (List TCell), (cells_one.f a0 t4_1) ∧ r = (t4_1, 0)) else (r = ([], t2_1))
theorem cells_One.D {a0 : Int} {r : (List TCell) × Int} (h : cells_One.f a0 r) : D Try.prog X (.callH 68 [.val (.int .i64 a0)] [] (.tuple [.rows (r.1.map TCell.cells), .val (.int .i64 r.2)]) []) := by
  unfold cells_One.f at h
  refine .enter 12 0 fn68 rfl rfl rfl ?_
  refine .seq ?_
  refine .reg0 rfl (.op 0 rfl (asV rfl) <| .op 0 rfl (asV rfl) <| .nil0) ?_
  refine .seq ?_
  refine .seq ?_
  obtain ⟨t2_1, g2_1, h⟩ := h
  refine .reg0 rfl (.op 0 rfl (mvV rfl) <| .callI rfl (callee_of rfl go84 rfl) (.pure rfl rfl (cells_dims.D g2_1)) <| .op 0 rfl (asV rfl) <| .nil0) ?_
  refine .seq ?_
  refine .reg0 rfl (.op 0 rfl (mvV rfl) <| .op 0 rfl (neI rfl rfl) <| .nil0) ?_
  by_cases c1 : t2_1 = 0
  · rw [if_pos c1] at h
    refine .condF rfl (bne_eq_false_iff_eq.mpr c1) ?_
    refine .skip ?_
    refine .seq ?_
    obtain ⟨t4_1, g4_1, h⟩ := h
    refine .reg0 rfl (.op 0 rfl (mvV rfl) <| .callI rfl (callee_of rfl go85 rfl) (.pure rfl rfl (cells_one.D g4_1)) <| .op 0 rfl (asR rfl) <| .op 0 rfl (asV rfl) <| .nil0) ?_
    replace h := h.symm
    subst h
    refine .keepL [] [(2, .rows (t4_1.map TCell.cells)), (3, .val (.int .i64 0))] [] (by decide) (by decide) ⟨.free rfl rfl, .free rfl rfl, trivial⟩ trivial ?_
    exact .ret rfl
  · rw [if_neg c1] at h
    refine .condT rfl (bne_iff_ne.mpr c1) ?_
    refine .seq ?_
    refine .reg0 rfl (.op 0 rfl (mvV rfl) <| .op 0 rfl (asV rfl) <| .op 0 rfl (asV rfl) <| .nil0) ?_
    replace h := h.symm
    subst h
    refine .keepL [] [(2, .rows (([] : List TCell).map TCell.cells)), (3, .val (.int .i64 t2_1))] [] (by decide) (by decide) ⟨.nil, .free rfl rfl, trivial⟩ trivial ?_
    exact .ret rfl
def weight_one.step (self52 : TSpace → TWeight → Prop) (a0 : TSpace) (r : TWeight) : Prop :=
  if a0.Tag = 3 then (∃ t5_2 : TFacts × Int, (facts_One.f a0.Dim t5_2) ∧ r = (TWeight.mk false 0 t5_2.1 [] [])) else (if a0.Tag = 4 then (∃ t8_2 : (List TCell) × Int, (cells_One.f a0.Dim t8_2) ∧ r = (TWeight.mk false 0 (TFacts.mk 0 []) t8_2.1 [])) else (if a0.Tag = 5 then (((InR 0 a0.Parts.length)) ∧ ∃ t11_4 : TWeight, (self52 (rdl a0.Parts 0) t11_4) ∧ ((InR 1 a0.Parts.length)) ∧ ∃ t11_9 : TWeight, (self52 (rdl a0.Parts 1) t11_9) ∧ r = (TWeight.mk false 0 (TFacts.mk 0 []) [] [t11_4, t11_9])) else (r = (TWeight.mk false 0 (TFacts.mk 0 []) [] []))))
theorem weight_one.stepD {self52 : TSpace → TWeight → Prop} {a0 : TSpace} (hs52 : ∀ z0_ r_, self52 z0_ r_ → D Try.prog X (.callH 52 [.agg (TSpace.lit z0_)] [] (.agg (TWeight.lit r_)) [])) {r : TWeight} (h : weight_one.step self52 a0 r) : D Try.prog X (.callH 52 [.agg (TSpace.lit a0)] [] (.agg (TWeight.lit r)) []) := by
  unfold weight_one.step at h
  refine .enter 39 0 fn52 rfl rfl rfl ?_
  refine .seq ?_
  refine .room 0 ?_
  refine .room 0 ?_
  refine .reg0 rfl (.op 0 rfl (bxP (s := 3) (cs := (TSpace.lit a0)) rfl ⟨rfl, by decide, rfl⟩ rfl) <| .op 1 rfl (alP (s := 6) ze48 ⟨rfl, by decide, rfl⟩ rfl) <| .nil0) ?_
  refine .seq ?_
  refine .room 0 ?_
  refine .reg0 rfl (.op 2 rfl (alP (s := 6) ze48 ⟨rfl, by decide, rfl⟩ rfl) <| .nil0) ?_
  refine .seq ?_
  refine .seq ?_
  refine .reg0 rfl (.op 0 rfl (faP fa25_0 rfl) <| .op 0 rfl (ldP rfl sz22 ag22 rfl) <| .nil0) ?_
  refine .block ?_
  refine .seq ?_
  refine .reg0 rfl (.op 0 rfl (eqI rfl rfl) <| .op 0 rfl (asV rfl) <| .nil0) ?_
  by_cases c1 : a0.Tag = 3
  · rw [if_pos c1] at h
    refine .condT rfl (beq_iff_eq.mpr c1) ?_
    obtain ⟨t5_2, g5_2, h⟩ := h
    refine .reg0 rfl (.op 0 rfl (faP fa25_1 rfl) <| .op 0 rfl (ldP rfl sz3 ag3 rfl) <| .callI rfl (callee_of rfl go67 rfl) (.pure rfl rfl (facts_One.D g5_2)) <| .op 0 rfl (mvT rfl) <| .op 0 rfl (exT rfl rfl) <| .op 0 rfl (exT rfl rfl) <| .op 0 rfl (faP fa48_2 rfl) <| .op 0 rfl (stB (cs0 := [.val (.bool false), .val (.int .i64 0), .val (.int .u64 0), .val (.slice none 0 0), .val (.slice none 0 0), .val (.slice none 0 0)]) (cs := (TFacts.lit t5_2.1)) (cs1 := [.val (.bool false), .val (.int .i64 0), .val (.int .u64 t5_2.1.Gen), .rows (t5_2.1.Rows.map (cInt .u64)), .val (.slice none 0 0), .val (.slice none 0 0)]) rfl rfl sz44 rfl ⟨Nat.le_of_ble_eq_true rfl, rfl⟩ rfl) <| .nil0) ?_
    refine .inBlock ?_
    refine .seq ?_
    refine .reg0 rfl (.op 0 rfl (ldG rfl sz48 ag48 rfl) <| .op 0 rfl (stB (cs0 := [.val (.bool false), .val (.int .i64 0), .val (.int .u64 0), .val (.slice none 0 0), .val (.slice none 0 0), .val (.slice none 0 0)]) (cs := [.val (.bool false), .val (.int .i64 0), .val (.int .u64 t5_2.1.Gen), .rows (t5_2.1.Rows.map (cInt .u64)), .val (.slice none 0 0), .val (.slice none 0 0)]) (cs1 := [.val (.bool false), .val (.int .i64 0), .val (.int .u64 t5_2.1.Gen), .rows (t5_2.1.Rows.map (cInt .u64)), .val (.slice none 0 0), .val (.slice none 0 0)]) rfl rfl sz48 rfl ⟨Nat.le_of_ble_eq_true rfl, rfl⟩ rfl) <| .nil0) ?_
    replace h := h.symm
    subst h
    refine .keepL [] [(2, .cptr [.val (.bool false), .val (.int .i64 0), .val (.int .u64 t5_2.1.Gen), .rows (t5_2.1.Rows.map (cInt .u64)), .rows (([] : List TCell).map TCell.cells), .rows (([] : List TWeight).map TWeight.cells)] 0)] [] (by decide) (by decide) ⟨cFixP rfl rfl (.cons (.free rfl rfl) <| .cons (.free rfl rfl) <| .cons (.free rfl rfl) <| .cons (.free rfl rfl) <| .cons (.nil) <| .cons (.nil) <| .nil), trivial⟩ trivial ?_
    exact .ret rfl
  · rw [if_neg c1] at h
    refine .condF rfl (beq_eq_false_iff_ne.mpr c1) ?_
    refine .seq ?_
    refine .reg0 rfl (.op 0 rfl (eqI rfl rfl) <| .op 0 rfl (asV rfl) <| .nil0) ?_
    by_cases c2 : a0.Tag = 4
    · rw [if_pos c2] at h
      refine .condT rfl (beq_iff_eq.mpr c2) ?_
      obtain ⟨t8_2, g8_2, h⟩ := h
      refine .reg0 rfl (.op 0 rfl (faP fa25_1 rfl) <| .op 0 rfl (ldP rfl sz3 ag3 rfl) <| .callI rfl (callee_of rfl go68 rfl) (.pure rfl rfl (cells_One.D g8_2)) <| .op 0 rfl (mvT rfl) <| .op 0 rfl (exT rfl rfl) <| .op 0 rfl (exT rfl rfl) <| .op 0 rfl (faP fa48_3 rfl) <| .op 0 rfl (stB (cs0 := [.val (.bool false), .val (.int .i64 0), .val (.int .u64 0), .val (.slice none 0 0), .val (.slice none 0 0), .val (.slice none 0 0)]) (cs := [.rows (t8_2.1.map TCell.cells)]) (cs1 := [.val (.bool false), .val (.int .i64 0), .val (.int .u64 0), .val (.slice none 0 0), .rows (t8_2.1.map TCell.cells), .val (.slice none 0 0)]) rfl rfl sz45 rfl ⟨Nat.le_of_ble_eq_true rfl, rfl⟩ rfl) <| .nil0) ?_
      refine .inBlock ?_
      refine .seq ?_
      refine .reg0 rfl (.op 0 rfl (ldG rfl sz48 ag48 rfl) <| .op 0 rfl (stB (cs0 := [.val (.bool false), .val (.int .i64 0), .val (.int .u64 0), .val (.slice none 0 0), .val (.slice none 0 0), .val (.slice none 0 0)]) (cs := [.val (.bool false), .val (.int .i64 0), .val (.int .u64 0), .val (.slice none 0 0), .rows (t8_2.1.map TCell.cells), .val (.slice none 0 0)]) (cs1 := [.val (.bool false), .val (.int .i64 0), .val (.int .u64 0), .val (.slice none 0 0), .rows (t8_2.1.map TCell.cells), .val (.slice none 0 0)]) rfl rfl sz48 rfl ⟨Nat.le_of_ble_eq_true rfl, rfl⟩ rfl) <| .nil0) ?_
      replace h := h.symm
      subst h
      refine .keepL [] [(2, .cptr [.val (.bool false), .val (.int .i64 0), .val (.int .u64 0), .rows (([] : List Int).map (cInt .u64)), .rows (t8_2.1.map TCell.cells), .rows (([] : List TWeight).map TWeight.cells)] 0)] [] (by decide) (by decide) ⟨cFixP rfl rfl (.cons (.free rfl rfl) <| .cons (.free rfl rfl) <| .cons (.free rfl rfl) <| .cons (.nil) <| .cons (.free rfl rfl) <| .cons (.nil) <| .nil), trivial⟩ trivial ?_
      exact .ret rfl
    · rw [if_neg c2] at h
      refine .condF rfl (beq_eq_false_iff_ne.mpr c2) ?_
      refine .seq ?_
      refine .reg0 rfl (.op 0 rfl (eqI rfl rfl) <| .op 0 rfl (asV rfl) <| .nil0) ?_
      by_cases c3 : a0.Tag = 5
      · rw [if_pos c3] at h
        refine .condT rfl (beq_iff_eq.mpr c3) ?_
        obtain ⟨g11_2, h⟩ := h
        obtain ⟨t11_4, g11_4, h⟩ := h
        obtain ⟨g11_7, h⟩ := h
        obtain ⟨t11_9, g11_9, h⟩ := h
        refine .room 0 ?_
        refine .reg1 (e1 := listEnv [(2, .ptr 1 1 6 0 0), (3, .ptr 2 1 6 0 0)]) (H1 := [⟨3, [(TSpace.lit a0)], 0, none⟩, ⟨6, [[.val (.bool false), .val (.int .i64 0), .val (.int .u64 0), .val (.slice none 0 0), .val (.slice none 0 0), .val (.slice none 0 0)]], 0, none⟩, ⟨6, [[.val (.bool false), .val (.int .i64 0), .val (.int .u64 0), .val (.slice none 0 0), .val (.slice none 0 0), .own 3 ([t11_4, t11_9].length)]], 0, none⟩, ⟨6, [t11_4, t11_9].map TWeight.cells, 0, none⟩]) rfl ?_ ?_
        · exact .drawM [(11, 37, .ptr 2 1 6 0 5), (10, 36, .own 3 ([t11_4, t11_9].length)), (9, 35, .agg (TWeight.lit t11_9)), (8, 34, .agg (TSpace.lit (rdl a0.Parts 1))), (7, 33, .cptr (TSpace.lit (rdl a0.Parts 1)) 0), (6, 32, .rows (a0.Parts.map TSpace.cells)), (5, 31, .ptr 0 1 3 0 2), (4, 30, .agg (TWeight.lit t11_4)), (3, 29, .agg (TSpace.lit (rdl a0.Parts 0))), (2, 28, .cptr (TSpace.lit (rdl a0.Parts 0)) 0), (1, 27, .rows (a0.Parts.map TSpace.cells)), (0, 26, .ptr 0 1 3 0 2)] [(12, 2, ⟨6, [[.val (.bool false), .val (.int .i64 0), .val (.int .u64 0), .val (.slice none 0 0), .val (.slice none 0 0), .own 3 ([t11_4, t11_9].length)]], 0, none⟩), (10, 3, ⟨6, [t11_4, t11_9].map TWeight.cells, 0, none⟩)] [[], [0], [1, 0], [2, 1, 0], [3, 2, 1, 0], [], [5], [6, 5], [7, 6, 5], [8, 7, 6, 5, 4, 3, 2, 1, 0], [4, 3, 2, 1, 0, 9, 8, 7, 6, 5], [0, 1, 2, 3, 4, 5, 6, 7, 8, 9, 10], [11, 0, 1, 2, 3, 4, 5, 6, 7, 8, 9, 10]] (by rfl) (by rfl) (by rfl) (by exact ⟨fun S hS hD hn => .one 0 hS hD hn rfl rfl (faP fa25_2 rfl) rfl rfl rfl, fun S hS hD hn => .one 0 hS hD hn rfl rfl (ldP rfl sz23 ag23 rfl) rfl rfl rfl, fun S hS hD hn => .one 0 hS hD hn rfl rfl (ixR (l := a0.Parts) (lit := TSpace.lit) sl23 rfl rfl TSpace.cells_lit g11_2.1 g11_2.2) rfl rfl rfl, fun S hS hD hn => .one 0 hS hD hn rfl rfl (ldCG rfl sz25 ag25 rfl) rfl rfl rfl, fun S hS hD hn => .oneI hS hD hn rfl rfl (callee_of rfl go52 rfl) (.pure rfl rfl (hs52 _ _ g11_4)) rfl rfl rfl, fun S hS hD hn => .one 0 hS hD hn rfl rfl (faP fa25_2 rfl) rfl rfl rfl, fun S hS hD hn => .one 0 hS hD hn rfl rfl (ldP rfl sz23 ag23 rfl) rfl rfl rfl, fun S hS hD hn => .one 0 hS hD hn rfl rfl (ixR (l := a0.Parts) (lit := TSpace.lit) sl23 rfl rfl TSpace.cells_lit g11_7.1 g11_7.2) rfl rfl rfl, fun S hS hD hn => .one 0 hS hD hn rfl rfl (ldCG rfl sz25 ag25 rfl) rfl rfl rfl, fun S hS hD hn => .oneI hS hD hn rfl rfl (callee_of rfl go52 rfl) (.pure rfl rfl (hs52 _ _ g11_9)) rfl rfl rfl, fun S hS hD hn => .one 3 hS hD hn rfl rfl (bldT (s := 6) (cs := [.val (.bool t11_4.Zero), .val (.int .i64 t11_4.Cost), .val (.int .u64 t11_4.Facts.Gen), .rows (t11_4.Facts.Rows.map (cInt .u64)), .rows (t11_4.Cells.map TCell.cells), .rows (t11_4.Parts.map TWeight.cells), .val (.bool t11_9.Zero), .val (.int .i64 t11_9.Cost), .val (.int .u64 t11_9.Facts.Gen), .rows (t11_9.Facts.Rows.map (cInt .u64)), .rows (t11_9.Cells.map TCell.cells), .rows (t11_9.Parts.map TWeight.cells)]) (cf := TWeight.cells) [t11_4, t11_9] un46 sz48 ze48 ⟨by decide, rfl, by decide⟩ rfl rfl rfl (by simp only [List.map, TWeight.cells_lit]; rfl) rfl) rfl rfl rfl, fun S hS hD hn => .one 0 hS hD hn rfl rfl (faP fa48_4 rfl) rfl rfl rfl, fun S hS hD hn => .one0 0 rfl rfl (stB (cs0 := [.val (.bool false), .val (.int .i64 0), .val (.int .u64 0), .val (.slice none 0 0), .val (.slice none 0 0), .val (.slice none 0 0)]) (cs := [.own 3 ([t11_4, t11_9].length)]) (cs1 := [.val (.bool false), .val (.int .i64 0), .val (.int .u64 0), .val (.slice none 0 0), .val (.slice none 0 0), .own 3 ([t11_4, t11_9].length)]) rfl rfl sz46 rfl ⟨Nat.le_of_ble_eq_true rfl, rfl⟩ rfl) (drawE_other _ _ _ _ rfl) rfl, trivial⟩) _ (by exact ⟨.ptr rfl, .ptr rfl, trivial⟩) (by rfl)
        refine .inBlock ?_
        refine .seq ?_
        refine .reg0 rfl (.op 0 rfl (ldG rfl sz48 ag48 rfl) <| .op 0 rfl (stB (cs0 := [.val (.bool false), .val (.int .i64 0), .val (.int .u64 0), .val (.slice none 0 0), .val (.slice none 0 0), .val (.slice none 0 0)]) (cs := [.val (.bool false), .val (.int .i64 0), .val (.int .u64 0), .val (.slice none 0 0), .val (.slice none 0 0), .own 3 ([t11_4, t11_9].length)]) (cs1 := [.val (.bool false), .val (.int .i64 0), .val (.int .u64 0), .val (.slice none 0 0), .val (.slice none 0 0), .own 3 ([t11_4, t11_9].length)]) rfl rfl sz48 rfl ⟨Nat.le_of_ble_eq_true rfl, rfl⟩ rfl) <| .nil0) ?_
        replace h := h.symm
        subst h
        refine .keepL [] [(2, .cptr [.val (.bool false), .val (.int .i64 0), .val (.int .u64 0), .rows (([] : List Int).map (cInt .u64)), .rows (([] : List TCell).map TCell.cells), .rows ([t11_4, t11_9].map TWeight.cells)] 0)] [] (by decide) (by decide) ⟨cFixP rfl rfl (.cons (.free rfl rfl) <| .cons (.free rfl rfl) <| .cons (.free rfl rfl) <| .cons (.nil) <| .cons (.nil) <| .cons (cFixO (l := [t11_4, t11_9]) sl46 rfl rfl rfl rfl) <| .nil), trivial⟩ trivial ?_
        exact .ret rfl
      · rw [if_neg c3] at h
        refine .condF rfl (beq_eq_false_iff_ne.mpr c3) ?_
        refine .skip ?_
        refine .inBlock ?_
        refine .seq ?_
        refine .reg0 rfl (.op 0 rfl (ldG rfl sz48 ag48 rfl) <| .op 0 rfl (stB (cs0 := [.val (.bool false), .val (.int .i64 0), .val (.int .u64 0), .val (.slice none 0 0), .val (.slice none 0 0), .val (.slice none 0 0)]) (cs := [.val (.bool false), .val (.int .i64 0), .val (.int .u64 0), .val (.slice none 0 0), .val (.slice none 0 0), .val (.slice none 0 0)]) (cs1 := [.val (.bool false), .val (.int .i64 0), .val (.int .u64 0), .val (.slice none 0 0), .val (.slice none 0 0), .val (.slice none 0 0)]) rfl rfl sz48 rfl ⟨Nat.le_of_ble_eq_true rfl, rfl⟩ rfl) <| .nil0) ?_
        replace h := h.symm
        subst h
        refine .keepL [] [(2, .cptr [.val (.bool false), .val (.int .i64 0), .val (.int .u64 0), .rows (([] : List Int).map (cInt .u64)), .rows (([] : List TCell).map TCell.cells), .rows (([] : List TWeight).map TWeight.cells)] 0)] [] (by decide) (by decide) ⟨cFixP rfl rfl (.cons (.free rfl rfl) <| .cons (.free rfl rfl) <| .cons (.free rfl rfl) <| .cons (.nil) <| .cons (.nil) <| .cons (.nil) <| .nil), trivial⟩ trivial ?_
        exact .ret rfl
def weight_one.fN : Nat → TSpace → TWeight → Prop
  | 0 => fun _ _ => False
  | n + 1 => weight_one.step (weight_one.fN n)
theorem weight_one.ND : ∀ (n : Nat) {a0 : TSpace} {r : TWeight} (h : weight_one.fN n a0 r), D Try.prog X (.callH 52 [.agg (TSpace.lit a0)] [] (.agg (TWeight.lit r)) [])
  | 0, _, _, h => h.elim
  | n + 1, _, _, h => weight_one.stepD (fun _ _ h => weight_one.ND n h) h
def weight_one.f (a0 : TSpace) (r : TWeight) : Prop := ∃ n, weight_one.fN n a0 r
theorem weight_one.D {a0 : TSpace} {r : TWeight} (h : weight_one.f a0 r) : D Try.prog X (.callH 52 [.agg (TSpace.lit a0)] [] (.agg (TWeight.lit r)) []) := by obtain ⟨n, h⟩ := h; exact weight_one.ND n h
def weight_One.f (a0 : TSpace) (r : TWeight × Int) : Prop :=
  ∃ t2_1 : Int, (weight_Space.f a0 t2_1) ∧ if t2_1 = 0 then (∃ t4_1 : TWeight, (weight_one.f a0 t4_1) ∧ r = (t4_1, 0)) else (r = ((TWeight.mk false 0 (TFacts.mk 0 []) [] []), t2_1))
theorem weight_One.D {a0 : TSpace} {r : TWeight × Int} (h : weight_One.f a0 r) : D Try.prog X (.callH 35 [.agg (TSpace.lit a0)] [] (.tuple [.agg (TWeight.lit r.1), .val (.int .i64 r.2)]) []) := by
  unfold weight_One.f at h
  refine .enter 13 0 fn35 rfl rfl rfl ?_
  refine .seq ?_
  refine .room 0 ?_
  refine .room 0 ?_
  refine .reg0 rfl (.op 0 rfl (bxP (s := 3) (cs := (TSpace.lit a0)) rfl ⟨rfl, by decide, rfl⟩ rfl) <| .op 1 rfl (alP (s := 6) ze48 ⟨rfl, by decide, rfl⟩ rfl) <| .op 0 rfl (asV rfl) <| .nil0) ?_
  refine .seq ?_
  refine .seq ?_
  obtain ⟨t2_1, g2_1, h⟩ := h
  refine .reg0 rfl (.op 0 rfl (ldG rfl sz25 ag25 rfl) <| .callI rfl (callee_of rfl go45 rfl) (.pure rfl rfl (weight_Space.D g2_1)) <| .op 0 rfl (asV rfl) <| .nil0) ?_
  refine .seq ?_
  refine .reg0 rfl (.op 0 rfl (mvV rfl) <| .op 0 rfl (neI rfl rfl) <| .nil0) ?_
  by_cases c1 : t2_1 = 0
  · rw [if_pos c1] at h
    refine .condF rfl (bne_eq_false_iff_eq.mpr c1) ?_
    refine .skip ?_
    refine .seq ?_
    obtain ⟨t4_1, g4_1, h⟩ := h
    refine .reg0 rfl (.op 0 rfl (ldG rfl sz25 ag25 rfl) <| .callI rfl (callee_of rfl go52 rfl) (.pure rfl rfl (weight_one.D g4_1)) <| .op 0 rfl (stB (cs0 := [.val (.bool false), .val (.int .i64 0), .val (.int .u64 0), .val (.slice none 0 0), .val (.slice none 0 0), .val (.slice none 0 0)]) (cs := (TWeight.lit t4_1)) (cs1 := (TWeight.lit t4_1)) rfl rfl sz48 rfl ⟨Nat.le_of_ble_eq_true rfl, rfl⟩ rfl) <| .op 0 rfl (asV rfl) <| .nil0) ?_
    replace h := h.symm
    subst h
    refine .keepL [] [(2, .cptr (TWeight.lit t4_1) 0), (3, .val (.int .i64 0))] [] (by decide) (by decide) ⟨cFixP rfl rfl (.cons (.free rfl rfl) <| .cons (.free rfl rfl) <| .cons (.free rfl rfl) <| .cons (.free rfl rfl) <| .cons (.free rfl rfl) <| .cons (.free rfl rfl) <| .nil), .free rfl rfl, trivial⟩ trivial ?_
    exact .ret rfl
  · rw [if_neg c1] at h
    refine .condT rfl (bne_iff_ne.mpr c1) ?_
    refine .seq ?_
    refine .reg0 rfl (.op 0 rfl (bldS (cs := [.val (.bool false), .val (.int .i64 0), .val (.int .u64 0), .val (.slice none 0 0), .val (.slice none 0 0), .val (.slice none 0 0)]) ze48 pl48 rfl rfl) <| .op 0 rfl (mvV rfl) <| .op 0 rfl (stB (cs0 := [.val (.bool false), .val (.int .i64 0), .val (.int .u64 0), .val (.slice none 0 0), .val (.slice none 0 0), .val (.slice none 0 0)]) (cs := [.val (.bool false), .val (.int .i64 0), .val (.int .u64 0), .val (.slice none 0 0), .val (.slice none 0 0), .val (.slice none 0 0)]) (cs1 := [.val (.bool false), .val (.int .i64 0), .val (.int .u64 0), .val (.slice none 0 0), .val (.slice none 0 0), .val (.slice none 0 0)]) rfl rfl sz48 rfl ⟨Nat.le_of_ble_eq_true rfl, rfl⟩ rfl) <| .op 0 rfl (asV rfl) <| .nil0) ?_
    replace h := h.symm
    subst h
    refine .keepL [] [(2, .cptr [.val (.bool false), .val (.int .i64 0), .val (.int .u64 0), .rows (([] : List Int).map (cInt .u64)), .rows (([] : List TCell).map TCell.cells), .rows (([] : List TWeight).map TWeight.cells)] 0), (3, .val (.int .i64 t2_1))] [] (by decide) (by decide) ⟨cFixP rfl rfl (.cons (.free rfl rfl) <| .cons (.free rfl rfl) <| .cons (.free rfl rfl) <| .cons (.nil) <| .cons (.nil) <| .cons (.nil) <| .nil), .free rfl rfl, trivial⟩ trivial ?_
    exact .ret rfl
def query_one.f (a0 : TPds) (r : TWeight) : Prop :=
  ∃ t2_2 : TWeight × Int, (weight_One.f a0.Space t2_2) ∧ r = t2_2.1
theorem query_one.D {a0 : TPds} {r : TWeight} (h : query_one.f a0 r) : D Try.prog X (.callH 20 [.agg (TPds.lit a0)] [] (.agg (TWeight.lit r)) []) := by
  unfold query_one.f at h
  refine .enter 12 0 fn20 rfl rfl rfl ?_
  refine .seq ?_
  refine .room 0 ?_
  refine .room 0 ?_
  refine .reg0 rfl (.op 0 rfl (bxP (s := 6) (cs := (TPds.lit a0)) rfl ⟨rfl, by decide, rfl⟩ rfl) <| .op 1 rfl (alP (s := 6) ze48 ⟨rfl, by decide, rfl⟩ rfl) <| .nil0) ?_
  refine .seq ?_
  obtain ⟨t2_2, g2_2, h⟩ := h
  refine .room 0 ?_
  refine .reg0 rfl (.op 0 rfl (faP fa28_0 rfl) <| .op 0 rfl (ldG rfl sz25 ag25 rfl) <| .callI rfl (callee_of rfl go35 rfl) (.pure rfl rfl (weight_One.D g2_2)) <| .op 0 rfl (mvT rfl) <| .op 0 rfl (exT rfl rfl) <| .op 0 rfl (exT rfl rfl) <| .op 2 rfl (alP (s := 6) ze48 ⟨rfl, by decide, rfl⟩ rfl) <| .op 0 rfl (stB (cs0 := [.val (.bool false), .val (.int .i64 0), .val (.int .u64 0), .val (.slice none 0 0), .val (.slice none 0 0), .val (.slice none 0 0)]) (cs := (TWeight.lit t2_2.1)) (cs1 := (TWeight.lit t2_2.1)) rfl rfl sz48 rfl ⟨Nat.le_of_ble_eq_true rfl, rfl⟩ rfl) <| .op 0 rfl (asV rfl) <| .nil0) ?_
  refine .seq ?_
  refine .reg0 rfl (.op 0 rfl (ldG rfl sz48 ag48 rfl) <| .op 0 rfl (stB (cs0 := [.val (.bool false), .val (.int .i64 0), .val (.int .u64 0), .val (.slice none 0 0), .val (.slice none 0 0), .val (.slice none 0 0)]) (cs := (TWeight.lit t2_2.1)) (cs1 := (TWeight.lit t2_2.1)) rfl rfl sz48 rfl ⟨Nat.le_of_ble_eq_true rfl, rfl⟩ rfl) <| .nil0) ?_
  replace h := h.symm
  subst h
  refine .keepL [] [(2, .cptr (TWeight.lit t2_2.1) 0)] [] (by decide) (by decide) ⟨cFixP rfl rfl (.cons (.free rfl rfl) <| .cons (.free rfl rfl) <| .cons (.free rfl rfl) <| .cons (.free rfl rfl) <| .cons (.free rfl rfl) <| .cons (.free rfl rfl) <| .nil), trivial⟩ trivial ?_
  exact .ret rfl
def query_base_o0Trans.f (a0 : TPds) (r : TAuto) : Prop :=
  ∃ t3_2 : (List TSpace), (slices_Clone_Space.f a0.Space.Parts t3_2) ∧ r = (TAuto.mk (TSpace.mk a0.Space.Tag a0.Space.Dim t3_2) a0.States a0.Symbols [] [])
theorem query_base_o0Trans.D {a0 : TPds} {r : TAuto} (h : query_base_o0Trans.f a0 r) : D Try.prog X (.callH 19 [.agg (TPds.lit a0)] [] (.agg [.val (.int .i64 r.Space.Tag), .val (.int .i64 r.Space.Dim), .rows (r.Space.Parts.map TSpace.cells), .val (.int .i64 r.States), .val (.int .i64 r.Symbols), .rows (r.Final.map (cInt .i64)), .own 0 r.Trans.length]) [⟨9, r.Trans.map TTrans.cells, 0, none⟩, ⟨7, [[.val (.int .i64 r.Space.Tag), .val (.int .i64 r.Space.Dim), .rows (r.Space.Parts.map TSpace.cells), .val (.int .i64 r.States), .val (.int .i64 r.Symbols), .rows (r.Final.map (cInt .i64)), .own 0 r.Trans.length]], 0, none⟩]) := by
  unfold query_base_o0Trans.f at h
  refine .enter 16 0 fn19 rfl rfl rfl ?_
  refine .seq ?_
  refine .room 0 ?_
  refine .room 0 ?_
  refine .reg0 rfl (.op 0 rfl (bxP (s := 6) (cs := (TPds.lit a0)) rfl ⟨rfl, by decide, rfl⟩ rfl) <| .op 1 rfl (alP (s := 7) ze35 ⟨rfl, by decide, rfl⟩ rfl) <| .nil0) ?_
  refine .seq ?_
  refine .room 0 ?_
  refine .reg0 rfl (.op 0 rfl (faP fa28_0 rfl) <| .op 0 rfl (ldG rfl sz25 ag25 rfl) <| .op 2 rfl (alP (s := 3) ze25 ⟨rfl, by decide, rfl⟩ rfl) <| .op 0 rfl (stB (cs0 := [.val (.int .i64 0), .val (.int .i64 0), .val (.slice none 0 0)]) (cs := (TSpace.lit a0.Space)) (cs1 := (TSpace.lit a0.Space)) rfl rfl sz25 rfl ⟨Nat.le_of_ble_eq_true rfl, rfl⟩ rfl) <| .nil0) ?_
  refine .seq ?_
  obtain ⟨t3_2, g3_2, h⟩ := h
  refine .reg0 rfl (.op 0 rfl (faP fa25_2 rfl) <| .op 0 rfl (ldP rfl sz23 ag23 rfl) <| .callI rfl (callee_of rfl go34 rfl) (.pure rfl rfl (slices_Clone_Space.D g3_2)) <| .op 0 rfl (faP fa25_2 rfl) <| .op 0 rfl (stB (cs0 := (TSpace.lit a0.Space)) (cs := [.rows (t3_2.map TSpace.cells)]) (cs1 := [.val (.int .i64 a0.Space.Tag), .val (.int .i64 a0.Space.Dim), .rows (t3_2.map TSpace.cells)]) rfl rfl sz23 rfl ⟨Nat.le_of_ble_eq_true rfl, rfl⟩ rfl) <| .nil0) ?_
  refine .seq ?_
  refine .reg0 rfl (.op 0 rfl (ldG rfl sz25 ag25 rfl) <| .op 0 rfl (faP fa28_1 rfl) <| .op 0 rfl (ldP rfl sz3 ag3 rfl) <| .op 0 rfl (faP fa28_2 rfl) <| .op 0 rfl (ldP rfl sz3 ag3 rfl) <| .op 0 rfl (bldS (cs := [.val (.int .i64 a0.Space.Tag), .val (.int .i64 a0.Space.Dim), .rows (t3_2.map TSpace.cells), .val (.int .i64 a0.States), .val (.int .i64 a0.Symbols), .val (.slice none 0 0), .val (.slice none 0 0)]) ze35 pl35 rfl rfl) <| .op 0 rfl (stB (cs0 := [.val (.int .i64 0), .val (.int .i64 0), .val (.slice none 0 0), .val (.int .i64 0), .val (.int .i64 0), .val (.slice none 0 0), .val (.slice none 0 0)]) (cs := [.val (.int .i64 a0.Space.Tag), .val (.int .i64 a0.Space.Dim), .rows (t3_2.map TSpace.cells), .val (.int .i64 a0.States), .val (.int .i64 a0.Symbols), .val (.slice none 0 0), .val (.slice none 0 0)]) (cs1 := [.val (.int .i64 a0.Space.Tag), .val (.int .i64 a0.Space.Dim), .rows (t3_2.map TSpace.cells), .val (.int .i64 a0.States), .val (.int .i64 a0.Symbols), .val (.slice none 0 0), .val (.slice none 0 0)]) rfl rfl sz35 rfl ⟨Nat.le_of_ble_eq_true rfl, rfl⟩ rfl) <| .nil0) ?_
  replace h := h.symm
  subst h
  refine .room 9 ?_
  refine .keepL [3, 1] [(2, .ptr 1 1 7 0 0)] [⟨9, [].map TTrans.cells, 0, none⟩, ⟨7, [[.val (.int .i64 a0.Space.Tag), .val (.int .i64 a0.Space.Dim), .rows (t3_2.map TSpace.cells), .val (.int .i64 a0.States), .val (.int .i64 a0.Symbols), .rows (([] : List Int).map (cInt .i64)), .own 0 0]], 0, none⟩] (by decide) (by decide) ⟨.ptr rfl, trivial⟩ ⟨⟨_, rfl, bcRow (l := []) sl33 (Nat.le_refl _) rfl⟩, ⟨_, rfl, bcBox (.cons (.free rfl rfl) <| .cons (.free rfl rfl) <| .cons (.free rfl rfl) <| .cons (.free rfl rfl) <| .cons (.free rfl rfl) <| .cons (.nil) <| .cons (.nilOwn) <| .nil)⟩, trivial⟩ ?_
  exact .ret rfl
end Go.RM.Try
