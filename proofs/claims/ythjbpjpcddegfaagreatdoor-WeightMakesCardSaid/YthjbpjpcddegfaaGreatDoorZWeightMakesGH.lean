/- GH, for the statement WeightMakes: what it needs, no more. -/
import Derived.Test.YthjbpjpcddegfaaGreatDoorZWeightMakesGG
set_option linter.unusedVariables false
set_option maxRecDepth 8000
set_option maxHeartbeats 4000000
namespace Go.RM.Tryz
open Go.RM Go.Proofs
def weight_then.step (self49 : TSpace → TWeight → TWeight → TWeight → Prop) (a0 : TSpace) (a1 : TWeight) (a2 : TWeight) (r : TWeight) : Prop :=
  if (a1.Zero || a2.Zero) = true then (r = (TWeight.mk true 0 (TFacts.mk 0 []) [] [])) else (if a0.Tag = 2 then (∃ t7_7 : Int × Int, (cost_Sum.f a0.Dim [a1.Cost, a2.Cost] t7_7) ∧ r = (TWeight.mk false t7_7.1 (TFacts.mk 0 []) [] [])) else (if a0.Tag = 3 then (∃ t10_6 : TFacts × Int, (facts_Extend.f a0.Dim a1.Facts a2.Facts t10_6) ∧ r = (TWeight.mk false 0 t10_6.1 [] [])) else (if a0.Tag = 4 then (∃ t13_6 : (List TCell) × Int, (cells_Then.f a0.Dim a1.Cells a2.Cells t13_6) ∧ r = (TWeight.mk false 0 (TFacts.mk 0 []) t13_6.1 [])) else (if a0.Tag = 5 then (((InR 0 a0.Parts.length)) ∧ ((InR 0 a1.Parts.length)) ∧ ((InR 0 a2.Parts.length)) ∧ ∃ t16_12 : TWeight, (self49 (rdl a0.Parts 0) (rdl a1.Parts 0) (rdl a2.Parts 0) t16_12) ∧ ((InR 1 a0.Parts.length)) ∧ ((InR 1 a1.Parts.length)) ∧ ((InR 1 a2.Parts.length)) ∧ ∃ t16_25 : TWeight, (self49 (rdl a0.Parts 1) (rdl a1.Parts 1) (rdl a2.Parts 1) t16_25) ∧ r = (TWeight.mk false 0 (TFacts.mk 0 []) [] [t16_12, t16_25])) else (r = (TWeight.mk false 0 (TFacts.mk 0 []) [] []))))))
abbrev GH_c0 : List PV := [bo false, i6 0, u6 0, nul, nul, nul]
abbrev GH_c1 : List PV := [bo true, i6 0, u6 0, nul, nul, nul]
abbrev GH_c2 : List PV := [bo false, i6 0, u6 0, .rows (([] : List Int).map (cInt .u64)), .rows (([] : List TCell).map TCell.cells), .rows (([] : List TWeight).map TWeight.cells)]
abbrev GH_c3 : List PV := [u6 0, i6 0, i6 0]
theorem weight_then.stepD {self49 : TSpace → TWeight → TWeight → TWeight → Prop} {a0 : TSpace} {a1 : TWeight} {a2 : TWeight} (hs49 : ∀ z0_ z1_ z2_ r_, self49 z0_ z1_ z2_ r_ → D Tryz.prog X (.callH 49 [.agg (TSpace.lit z0_), .agg (TWeight.lit z1_), .agg (TWeight.lit z2_)] [] (.agg (TWeight.lit r_)) [])) {r : TWeight} (h : weight_then.step self49 a0 a1 a2 r) : D Tryz.prog X (.callH 49 [.agg (TSpace.lit a0), .agg (TWeight.lit a1), .agg (TWeight.lit a2)] [] (.agg (TWeight.lit r)) []) := by
  unfold weight_then.step at h
  refine .enter 88 0 fn49 rfl rfl rfl <| .seq <| .room 0 <| .room 0 <| .room 0 <| .room 0 <| .reg0 rfl (.op 0 rfl (bxP (s := 3) (cs := (TSpace.lit a0)) rfl ⟨rfl, by decide, rfl⟩ rfl) <| .op 1 rfl (bxP (s := 6) (cs := (TWeight.lit a1)) rfl ⟨rfl, by decide, rfl⟩ rfl) <| .op 2 rfl (bxP (s := 6) (cs := (TWeight.lit a2)) rfl ⟨rfl, by decide, rfl⟩ rfl) <| .op 3 rfl (alP (s := 6) ze33 ⟨rfl, by decide, rfl⟩ rfl) <| .nil0) ?_
  refine .seq <| .seq ?_
  refine .reg0 (e1 := listEnv [(3, .ptr 0 1 3 0 0), (4, .ptr 1 1 6 0 0), (5, .ptr 2 1 6 0 0), (6, .ptr 3 1 6 0 0), (13, bo (a1.Zero || a2.Zero))]) (H1 := [⟨3, [(TSpace.lit a0)], 0, none⟩, ⟨6, [(TWeight.lit a1)], 0, none⟩, ⟨6, [(TWeight.lit a2)], 0, none⟩, ⟨6, [GH_c0], 0, none⟩]) rfl ?_ ?_
  · refine .o (faP fa33_0 rfl) <| .o (ldP rfl sz4 ag4 rfl) <| .m rfl <| ?_
    by_cases c1 : a1.Zero = true
    · exact (.n rfl c1 <| .n rfl c1 <| .o (pkTV rfl c1 rfl) <| .nilL _ ⟨.ptr rfl, .ptr rfl, .ptr rfl, .ptr rfl, cB rfl (mOrT c1), trivial⟩)
    · exact (.g rfl (nb c1) (faP fa33_0 rfl) <| .g rfl (nb c1) (ldP rfl sz4 ag4 rfl) <| .o (pkFV rfl (nb c1) rfl) <| .nilL _ ⟨.ptr rfl, .ptr rfl, .ptr rfl, .ptr rfl, cB rfl (mOrF (nb c1) rfl), trivial⟩)
  by_cases c2 : (a1.Zero || a2.Zero) = true
  · rw [if_pos c2] at h
    refine .condT rfl c2 <| .seq <| .reg0 rfl (.op 0 rfl (bldS (cs := GH_c1) ze33 pl33 rfl rfl) <| .op 0 rfl (stB (cs0 := GH_c0) (cs := GH_c1) (cs1 := GH_c1) rfl rfl sz33 rfl ⟨Nat.le_of_ble_eq_true rfl, rfl⟩ rfl) <| .nil0) ?_
    replace h := h.symm
    subst h
    refine .k [(6, .cptr [bo true, i6 0, u6 0, .rows (([] : List Int).map (cInt .u64)), .rows (([] : List TCell).map TCell.cells), .rows (([] : List TWeight).map TWeight.cells)] 0)] ⟨cFixP rfl rfl (.cons (.free rfl rfl) <| .cons (.free rfl rfl) <| .cons (.free rfl rfl) <| .cons (.nil) <| .cons (.nil) <| .cons (.nil) <| .nil), trivial⟩ ?_
    exact .ret rfl
  · rw [if_neg c2] at h
    refine .condF rfl (nb c2) <| .skip <| .seq <| .room 0 <| .reg0 rfl (.op 4 rfl (alP (s := 6) ze33 ⟨rfl, by decide, rfl⟩ rfl) <| .nil0) <| .seq <| .seq <| .reg0 rfl (.op 0 rfl (faP fa25_0 rfl) <| .op 0 rfl (ldP rfl sz22 ag22 rfl) <| .nil0) <| .block <| .seq <| .reg0 rfl (.op 0 rfl (eqI rfl rfl) <| .op 0 rfl (asV rfl) <| .nil0) ?_
    by_cases c3 : a0.Tag = 2
    · rw [if_pos c3] at h
      refine .condT rfl (bt c3) ?_
      obtain ⟨t7_7, g7_7, h⟩ := h
      refine .room 0 <| .reg0 rfl (.op 0 rfl (faP fa25_1 rfl) <| .op 0 rfl (ldP rfl sz3 ag3 rfl) <| .op 0 rfl (faP fa33_1 rfl) <| .op 0 rfl (ldP rfl sz3 ag3 rfl) <| .op 0 rfl (faP fa33_1 rfl) <| .op 0 rfl (ldP rfl sz3 ag3 rfl) <| .op 5 rfl (bldL (s := 1) (cs := [i6 a1.Cost, i6 a2.Cost]) un152 sz3 ze3 ⟨by decide, rfl, by decide⟩ rfl rfl rfl rfl) <| .callI rfl (callee_of rfl go81 rfl) (.lendC (args' := [i6 a0.Dim, .rows ([a1.Cost, a2.Cost].map (cInt .i64))])  [5] false (.cons (.free rfl rfl) <| .cons (cFixO (l := [a1.Cost, a2.Cost]) sl152 rfl rfl rfl rfl) <| .nil) (by decide) rfl rfl rfl rfl (cost_Sum.D g7_7)) <| .op 0 rfl (mvT rfl) <| .op 0 rfl (exT rfl rfl) <| .op 0 rfl (exT rfl rfl) <| .op 0 rfl (faP fa33_1 rfl) <| .op 0 rfl (stB (cs0 := GH_c0) (cs := [i6 t7_7.1]) (cs1 := [bo false, i6 t7_7.1, u6 0, nul, nul, nul]) rfl rfl sz3 rfl ⟨Nat.le_of_ble_eq_true rfl, rfl⟩ rfl) <| .nil0) ?_
      refine .inBlock <| .seq <| .reg0 rfl (.op 0 rfl (ldG rfl sz33 ag33 rfl) <| .op 0 rfl (stB (cs0 := GH_c0) (cs := [bo false, i6 t7_7.1, u6 0, nul, nul, nul]) (cs1 := [bo false, i6 t7_7.1, u6 0, nul, nul, nul]) rfl rfl sz33 rfl ⟨Nat.le_of_ble_eq_true rfl, rfl⟩ rfl) <| .nil0) ?_
      replace h := h.symm
      subst h
      refine .k [(6, .cptr [bo false, i6 t7_7.1, u6 0, .rows (([] : List Int).map (cInt .u64)), .rows (([] : List TCell).map TCell.cells), .rows (([] : List TWeight).map TWeight.cells)] 0)] ⟨cFixP rfl rfl (.cons (.free rfl rfl) <| .cons (.free rfl rfl) <| .cons (.free rfl rfl) <| .cons (.nil) <| .cons (.nil) <| .cons (.nil) <| .nil), trivial⟩ ?_
      exact .ret rfl
    · rw [if_neg c3] at h
      refine .condF rfl (bn c3) <| .seq <| .reg0 rfl (.op 0 rfl (eqI rfl rfl) <| .op 0 rfl (asV rfl) <| .nil0) ?_
      by_cases c4 : a0.Tag = 3
      · rw [if_pos c4] at h
        refine .condT rfl (bt c4) ?_
        obtain ⟨t10_6, g10_6, h⟩ := h
        refine .reg0 rfl (.o (faP fa25_1 rfl) <| .o (ldP rfl sz3 ag3 rfl) <| .o (faP fa33_2 rfl) <| .o (ldG rfl sz29 ag29 rfl) <| .o (faP fa33_2 rfl) <| .o (ldG rfl sz29 ag29 rfl) <| .c rfl go82 rfl rfl rfl (facts_Extend.D g10_6) <| .o (mvT rfl) <| .o (exT rfl rfl) <| .o (exT rfl rfl) <| .o (faP fa33_2 rfl) <| .o (stB (cs0 := GH_c0) (cs := (TFacts.lit t10_6.1)) (cs1 := [bo false, i6 0, u6 t10_6.1.Gen, .rows (t10_6.1.Rows.map (cInt .u64)), nul, nul]) rfl rfl sz29 rfl ⟨Nat.le_of_ble_eq_true rfl, rfl⟩ rfl) <| .nil0) ?_
        refine .inBlock <| .seq <| .reg0 rfl (.op 0 rfl (ldG rfl sz33 ag33 rfl) <| .op 0 rfl (stB (cs0 := GH_c0) (cs := [bo false, i6 0, u6 t10_6.1.Gen, .rows (t10_6.1.Rows.map (cInt .u64)), nul, nul]) (cs1 := [bo false, i6 0, u6 t10_6.1.Gen, .rows (t10_6.1.Rows.map (cInt .u64)), nul, nul]) rfl rfl sz33 rfl ⟨Nat.le_of_ble_eq_true rfl, rfl⟩ rfl) <| .nil0) ?_
        replace h := h.symm
        subst h
        refine .k [(6, .cptr [bo false, i6 0, u6 t10_6.1.Gen, .rows (t10_6.1.Rows.map (cInt .u64)), .rows (([] : List TCell).map TCell.cells), .rows (([] : List TWeight).map TWeight.cells)] 0)] ⟨cFixP rfl rfl (.cons (.free rfl rfl) <| .cons (.free rfl rfl) <| .cons (.free rfl rfl) <| .cons (.free rfl rfl) <| .cons (.nil) <| .cons (.nil) <| .nil), trivial⟩ ?_
        exact .ret rfl
      · rw [if_neg c4] at h
        refine .condF rfl (bn c4) <| .seq <| .reg0 rfl (.op 0 rfl (eqI rfl rfl) <| .op 0 rfl (asV rfl) <| .nil0) ?_
        by_cases c5 : a0.Tag = 4
        · rw [if_pos c5] at h
          refine .condT rfl (bt c5) ?_
          obtain ⟨t13_6, g13_6, h⟩ := h
          refine .reg0 rfl (.o (faP fa25_1 rfl) <| .o (ldP rfl sz3 ag3 rfl) <| .o (faP fa33_3 rfl) <| .o (ldP rfl sz30 ag30 rfl) <| .o (faP fa33_3 rfl) <| .o (ldP rfl sz30 ag30 rfl) <| .c rfl go83 rfl rfl rfl (cells_Then.D g13_6) <| .o (mvT rfl) <| .o (exT rfl rfl) <| .o (exT rfl rfl) <| .o (faP fa33_3 rfl) <| .o (stB (cs0 := GH_c0) (cs := [.rows (t13_6.1.map TCell.cells)]) (cs1 := [bo false, i6 0, u6 0, nul, .rows (t13_6.1.map TCell.cells), nul]) rfl rfl sz30 rfl ⟨Nat.le_of_ble_eq_true rfl, rfl⟩ rfl) <| .nil0) ?_
          refine .inBlock <| .seq <| .reg0 rfl (.op 0 rfl (ldG rfl sz33 ag33 rfl) <| .op 0 rfl (stB (cs0 := GH_c0) (cs := [bo false, i6 0, u6 0, nul, .rows (t13_6.1.map TCell.cells), nul]) (cs1 := [bo false, i6 0, u6 0, nul, .rows (t13_6.1.map TCell.cells), nul]) rfl rfl sz33 rfl ⟨Nat.le_of_ble_eq_true rfl, rfl⟩ rfl) <| .nil0) ?_
          replace h := h.symm
          subst h
          refine .k [(6, .cptr [bo false, i6 0, u6 0, .rows (([] : List Int).map (cInt .u64)), .rows (t13_6.1.map TCell.cells), .rows (([] : List TWeight).map TWeight.cells)] 0)] ⟨cFixP rfl rfl (.cons (.free rfl rfl) <| .cons (.free rfl rfl) <| .cons (.free rfl rfl) <| .cons (.nil) <| .cons (.free rfl rfl) <| .cons (.nil) <| .nil), trivial⟩ ?_
          exact .ret rfl
        · rw [if_neg c5] at h
          refine .condF rfl (bn c5) <| .seq <| .reg0 rfl (.op 0 rfl (eqI rfl rfl) <| .op 0 rfl (asV rfl) <| .nil0) ?_
          by_cases c6 : a0.Tag = 5
          · rw [if_pos c6] at h
            refine .condT rfl (bt c6) ?_
            obtain ⟨g16_2, h⟩ := h
            obtain ⟨g16_6, h⟩ := h
            obtain ⟨g16_10, h⟩ := h
            obtain ⟨t16_12, g16_12, h⟩ := h
            obtain ⟨g16_15, h⟩ := h
            obtain ⟨g16_19, h⟩ := h
            obtain ⟨g16_23, h⟩ := h
            obtain ⟨t16_25, g16_25, h⟩ := h
            refine .room 0 ?_
            refine .reg1 (e1 := listEnv [(6, .ptr 3 1 6 0 0), (7, .ptr 4 1 6 0 0)]) (H1 := [⟨3, [(TSpace.lit a0)], 0, none⟩, ⟨6, [(TWeight.lit a1)], 0, none⟩, ⟨6, [(TWeight.lit a2)], 0, none⟩, ⟨6, [GH_c0], 0, none⟩, ⟨6, [[bo false, i6 0, u6 0, nul, nul, .own 5 ([t16_12, t16_25].length)]], 0, none⟩, ⟨6, [t16_12, t16_25].map TWeight.cells, 0, none⟩]) rfl ?_ ?_
            · exact .drawM [(27, 86, .ptr 4 1 6 0 5), (26, 85, .own 5 ([t16_12, t16_25].length)), (25, 84, .agg (TWeight.lit t16_25)), (24, 83, .agg (TWeight.lit (rdl a2.Parts 1))), (23, 82, .cptr (TWeight.lit (rdl a2.Parts 1)) 0), (22, 81, .rows (a2.Parts.map TWeight.cells)), (21, 80, .ptr 2 1 6 0 5), (20, 79, .agg (TWeight.lit (rdl a1.Parts 1))), (19, 78, .cptr (TWeight.lit (rdl a1.Parts 1)) 0), (18, 77, .rows (a1.Parts.map TWeight.cells)), (17, 76, .ptr 1 1 6 0 5), (16, 75, .agg (TSpace.lit (rdl a0.Parts 1))), (15, 74, .cptr (TSpace.lit (rdl a0.Parts 1)) 0), (14, 73, .rows (a0.Parts.map TSpace.cells)), (13, 72, .ptr 0 1 3 0 2), (12, 71, .agg (TWeight.lit t16_12)), (11, 70, .agg (TWeight.lit (rdl a2.Parts 0))), (10, 69, .cptr (TWeight.lit (rdl a2.Parts 0)) 0), (9, 68, .rows (a2.Parts.map TWeight.cells)), (8, 67, .ptr 2 1 6 0 5), (7, 66, .agg (TWeight.lit (rdl a1.Parts 0))), (6, 65, .cptr (TWeight.lit (rdl a1.Parts 0)) 0), (5, 64, .rows (a1.Parts.map TWeight.cells)), (4, 63, .ptr 1 1 6 0 5), (3, 62, .agg (TSpace.lit (rdl a0.Parts 0))), (2, 61, .cptr (TSpace.lit (rdl a0.Parts 0)) 0), (1, 60, .rows (a0.Parts.map TSpace.cells)), (0, 59, .ptr 0 1 3 0 2)] [(28, 4, ⟨6, [[bo false, i6 0, u6 0, nul, nul, .own 5 ([t16_12, t16_25].length)]], 0, none⟩), (26, 5, ⟨6, [t16_12, t16_25].map TWeight.cells, 0, none⟩)] [[], [0], [1, 0], [2, 1, 0], [], [4], [5, 4], [6, 5, 4], [], [8], [9, 8], [10, 9, 8], [3, 2, 1, 0, 7, 6, 5, 4, 11, 10, 9, 8], [], [13], [14, 13], [15, 14, 13], [], [17], [18, 17], [19, 18, 17], [], [21], [22, 21], [23, 22, 21], [16, 15, 14, 13, 20, 19, 18, 17, 24, 23, 22, 21, 12, 3, 2, 1, 0, 7, 6, 5, 4, 11, 10, 9, 8], [12, 3, 2, 1, 0, 7, 6, 5, 4, 11, 10, 9, 8, 25, 16, 15, 14, 13, 20, 19, 18, 17, 24, 23, 22, 21], [0, 1, 2, 3, 4, 5, 6, 7, 8, 9, 10, 11, 12, 13, 14, 15, 16, 17, 18, 19, 20, 21, 22, 23, 24, 25, 26], [27, 0, 1, 2, 3, 4, 5, 6, 7, 8, 9, 10, 11, 12, 13, 14, 15, 16, 17, 18, 19, 20, 21, 22, 23, 24, 25, 26]] (by rfl) (by rfl) (by rfl) (by exact ⟨oP (fun _ => faP fa25_2 rfl) rfl, oP (fun _ => ldP rfl sz23 ag23 rfl) rfl, oP (fun _ => ixR (l := a0.Parts) (lit := TSpace.lit) sl23 rfl rfl TSpace.cells_lit g16_2.1 g16_2.2) rfl, oP (fun _ => ldCG rfl sz25 ag25 rfl) rfl, oP (fun _ => faP fa33_4 rfl) rfl, oP (fun _ => ldP rfl sz31 ag31 rfl) rfl, oP (fun _ => ixR (l := a1.Parts) (lit := TWeight.lit) sl31 rfl rfl TWeight.cells_lit g16_6.1 g16_6.2) rfl, oP (fun _ => ldCG rfl sz33 ag33 rfl) rfl, oP (fun _ => faP fa33_4 rfl) rfl, oP (fun _ => ldP rfl sz31 ag31 rfl) rfl, oP (fun _ => ixR (l := a2.Parts) (lit := TWeight.lit) sl31 rfl rfl TWeight.cells_lit g16_10.1 g16_10.2) rfl, oP (fun _ => ldCG rfl sz33 ag33 rfl) rfl, fun S hS hD hn => .oneI hS hD hn rfl rfl (callee_of rfl go49 rfl) (.pure rfl rfl (hs49 _ _ _ _ g16_12)) rfl rfl rfl, oP (fun _ => faP fa25_2 rfl) rfl, oP (fun _ => ldP rfl sz23 ag23 rfl) rfl, oP (fun _ => ixR (l := a0.Parts) (lit := TSpace.lit) sl23 rfl rfl TSpace.cells_lit g16_15.1 g16_15.2) rfl, oP (fun _ => ldCG rfl sz25 ag25 rfl) rfl, oP (fun _ => faP fa33_4 rfl) rfl, oP (fun _ => ldP rfl sz31 ag31 rfl) rfl, oP (fun _ => ixR (l := a1.Parts) (lit := TWeight.lit) sl31 rfl rfl TWeight.cells_lit g16_19.1 g16_19.2) rfl, oP (fun _ => ldCG rfl sz33 ag33 rfl) rfl, oP (fun _ => faP fa33_4 rfl) rfl, oP (fun _ => ldP rfl sz31 ag31 rfl) rfl, oP (fun _ => ixR (l := a2.Parts) (lit := TWeight.lit) sl31 rfl rfl TWeight.cells_lit g16_23.1 g16_23.2) rfl, oP (fun _ => ldCG rfl sz33 ag33 rfl) rfl, fun S hS hD hn => .oneI hS hD hn rfl rfl (callee_of rfl go49 rfl) (.pure rfl rfl (hs49 _ _ _ _ g16_25)) rfl rfl rfl, oW 5 (fun _ => bldT (s := 6) (cs := [bo t16_12.Zero, i6 t16_12.Cost, u6 t16_12.Facts.Gen, .rows (t16_12.Facts.Rows.map (cInt .u64)), .rows (t16_12.Cells.map TCell.cells), .rows (t16_12.Parts.map TWeight.cells), bo t16_25.Zero, i6 t16_25.Cost, u6 t16_25.Facts.Gen, .rows (t16_25.Facts.Rows.map (cInt .u64)), .rows (t16_25.Cells.map TCell.cells), .rows (t16_25.Parts.map TWeight.cells)]) (cf := TWeight.cells) [t16_12, t16_25] un31 sz33 ze33 ⟨by decide, rfl, by decide⟩ rfl rfl rfl (by simp only [List.map, TWeight.cells_lit]; rfl) rfl) rfl fun _ => rfl, oP (fun _ => faP fa33_4 rfl) rfl, fun S hS hD hn => .one0 0 rfl rfl (stB (cs0 := GH_c0) (cs := [.own 5 ([t16_12, t16_25].length)]) (cs1 := [bo false, i6 0, u6 0, nul, nul, .own 5 ([t16_12, t16_25].length)]) rfl rfl sz31 rfl ⟨Nat.le_of_ble_eq_true rfl, rfl⟩ rfl) (drawE_other _ _ _ _ rfl) rfl, trivial⟩) _ (by exact ⟨.ptr rfl, .ptr rfl, trivial⟩) (by rfl)
            refine .inBlock <| .seq <| .reg0 rfl (.op 0 rfl (ldG rfl sz33 ag33 rfl) <| .op 0 rfl (stB (cs0 := GH_c0) (cs := [bo false, i6 0, u6 0, nul, nul, .own 5 ([t16_12, t16_25].length)]) (cs1 := [bo false, i6 0, u6 0, nul, nul, .own 5 ([t16_12, t16_25].length)]) rfl rfl sz33 rfl ⟨Nat.le_of_ble_eq_true rfl, rfl⟩ rfl) <| .nil0) ?_
            replace h := h.symm
            subst h
            refine .k [(6, .cptr [bo false, i6 0, u6 0, .rows (([] : List Int).map (cInt .u64)), .rows (([] : List TCell).map TCell.cells), .rows ([t16_12, t16_25].map TWeight.cells)] 0)] ⟨cFixP rfl rfl (.cons (.free rfl rfl) <| .cons (.free rfl rfl) <| .cons (.free rfl rfl) <| .cons (.nil) <| .cons (.nil) <| .cons (cFixO (l := [t16_12, t16_25]) sl31 rfl rfl rfl rfl) <| .nil), trivial⟩ ?_
            exact .ret rfl
          · rw [if_neg c6] at h
            refine .condF rfl (bn c6) <| .skip <| .inBlock <| .seq <| .reg0 rfl (.op 0 rfl (ldG rfl sz33 ag33 rfl) <| .op 0 rfl (stB (cs0 := GH_c0) (cs := GH_c0) (cs1 := GH_c0) rfl rfl sz33 rfl ⟨Nat.le_of_ble_eq_true rfl, rfl⟩ rfl) <| .nil0) ?_
            replace h := h.symm
            subst h
            refine .k [(6, .cptr GH_c2 0)] ⟨cFixP rfl rfl (.cons (.free rfl rfl) <| .cons (.free rfl rfl) <| .cons (.free rfl rfl) <| .cons (.nil) <| .cons (.nil) <| .cons (.nil) <| .nil), trivial⟩ ?_
            exact .ret rfl
def weight_then.fN : Nat → TSpace → TWeight → TWeight → TWeight → Prop
  | 0 => fun _ _ _ _ => False
  | n + 1 => weight_then.step (weight_then.fN n)
theorem weight_then.ND : ∀ (n : Nat) {a0 : TSpace} {a1 : TWeight} {a2 : TWeight} {r : TWeight} (h : weight_then.fN n a0 a1 a2 r), D Tryz.prog X (.callH 49 [.agg (TSpace.lit a0), .agg (TWeight.lit a1), .agg (TWeight.lit a2)] [] (.agg (TWeight.lit r)) [])
  | 0, _, _, _, _, h => h.elim
  | n + 1, _, _, _, _, h => weight_then.stepD (fun _ _ _ _ h => weight_then.ND n h) h
def weight_then.f (a0 : TSpace) (a1 : TWeight) (a2 : TWeight) (r : TWeight) : Prop := ∃ n, weight_then.fN n a0 a1 a2 r
theorem weight_then.D {a0 a1 a2 r} (h : weight_then.f a0 a1 a2 r) : D Tryz.prog X (.callH 49 [.agg (TSpace.lit a0), .agg (TWeight.lit a1), .agg (TWeight.lit a2)] [] (.agg (TWeight.lit r)) []) := by obtain ⟨n, h⟩ := h; exact weight_then.ND n h
def weight_Extend.b1 (a0 : TSpace) (a1 : List TWeight) : (Bool × Int × Int × (List Int) × (List TCell) × (List TWeight) × Int) → Rnd ((Bool × Int × Int × (List Int) × (List TCell) × (List TWeight) × Int)) ((Bool × Int × Int × (List Int) × (List TCell) × (List TWeight))) (TWeight × Int) → Prop := fun (x1, x2, x3, x4, x5, x6, x7) z1 => if x7 < (a1.length : Int) then (((InR x7 a1.length)) ∧ ∃ t16_3 : TWeight, (weight_then.f a0 (TWeight.mk x1 x2 (TFacts.mk x3 x4) x5 x6) (rdl a1 x7) t16_3) ∧ z1 = .next (t16_3.Zero, t16_3.Cost, t16_3.Facts.Gen, t16_3.Facts.Rows, t16_3.Cells, t16_3.Parts, (IntKind.i64.wrap (x7 + 1)))) else (z1 = .exit (x1, x2, x3, x4, x5, x6))
def weight_Extend.f (a0 : TSpace) (a1 : List TWeight) (r : TWeight × Int) : Prop :=
  ∃ t2_2 : Int, (weight_checked.f a0 a1 t2_2) ∧ if t2_2 = 0 then (∃ t4_1 : TWeight, (weight_one.f a0 t4_1) ∧ ∃ o1 : Fin ((Bool × Int × Int × (List Int) × (List TCell) × (List TWeight))) (TWeight × Int), Loop (weight_Extend.b1 a0 a1) (t4_1.Zero, t4_1.Cost, t4_1.Facts.Gen, t4_1.Facts.Rows, t4_1.Cells, t4_1.Parts, 0) o1 ∧ o1.on (fun (x8, x9, x10, x11, x12, x13) => ∃ t18_1 : TWeight, (weight_copied.f (TWeight.mk x8 x9 (TFacts.mk x10 x11) x12 x13) t18_1) ∧ r = (t18_1, 0)) (fun r_ => r = r_)) else (r = ((TWeight.mk false 0 (TFacts.mk 0 []) [] []), t2_2))
theorem weight_Extend.D {a0 a1 r} (h : weight_Extend.f a0 a1 r) : D Tryz.prog X (.callH 21 [.agg (TSpace.lit a0), .rows (a1.map TWeight.cells)] [] (.tuple [.agg (TWeight.lit r.1), .val (.int .i64 r.2)]) []) := by
  unfold weight_Extend.f at h
  refine .enter 32 0 fn21 rfl rfl rfl <| .seq <| .room 0 <| .room 0 <| .reg0 rfl (.op 0 rfl (bxP (s := 3) (cs := (TSpace.lit a0)) rfl ⟨rfl, by decide, rfl⟩ rfl) <| .op 1 rfl (alP (s := 6) ze33 ⟨rfl, by decide, rfl⟩ rfl) <| .op 0 rfl (asV rfl) <| .nil0) <| .seq <| .seq ?_
  obtain ⟨t2_2, g2_2, h⟩ := h
  refine .reg0 rfl (.o (ldG rfl sz25 ag25 rfl) <| .o (mvR rfl) <| .c rfl go43 rfl rfl rfl (weight_checked.D g2_2) <| .a rfl <| .nil0) <| .seq <| .reg0 rfl (.op 0 rfl (mvV rfl) <| .op 0 rfl (neI rfl rfl) <| .nil0) ?_
  by_cases c1 : t2_2 = 0
  · rw [if_pos c1] at h
    refine .condF rfl (nf c1) <| .skip <| .seq ?_
    obtain ⟨t4_1, g4_1, h⟩ := h
    refine .room 0 <| .reg0 rfl (.op 0 rfl (ldG rfl sz25 ag25 rfl) <| .callI rfl (callee_of rfl go40 rfl) (.pure rfl rfl (weight_one.D g4_1)) <| .op 2 rfl (alP (s := 6) ze33 ⟨rfl, by decide, rfl⟩ rfl) <| .op 0 rfl (stB (cs0 := GH_c0) (cs := (TWeight.lit t4_1)) (cs1 := (TWeight.lit t4_1)) rfl rfl sz33 rfl ⟨Nat.le_of_ble_eq_true rfl, rfl⟩ rfl) <| .nil0) <| .seq <| .seq <| .reg0 rfl (.op 0 rfl (mvR rfl) <| .op 0 rfl (lnR (l := a1) sl31 rfl) <| .op 0 rfl (mvV rfl) <| .nil0) ?_
    refine .block <| .keepL [0, 1, 2] [(2, .ptr 0 1 3 0 0), (4, .ptr 1 1 6 0 0), (7, .ptr 2 1 6 0 0), (19, .rows (a1.map TWeight.cells)), (20, i6 (a1.length : Int)), (21, i6 0)] [⟨3, [(TSpace.lit a0)], 0, none⟩, ⟨6, [GH_c0], 0, none⟩, ⟨6, [(TWeight.lit t4_1)], 0, none⟩] (by decide) (by decide) ⟨.ptr rfl, .ptr rfl, .ptr rfl, .free rfl rfl, .free rfl rfl, .free rfl rfl, trivial⟩ ⟨⟨_, rfl, bcBox (all2_free rfl)⟩, ⟨_, rfl, bcBox (all2_free rfl)⟩, ⟨_, rfl, bcBox (all2_free rfl)⟩, trivial⟩ ?_
    obtain ⟨o1, hL1, h⟩ := h
    refine .loopB (weight_Extend.b1 a0 a1) (fun (x1, x2, x3, x4, x5, x6, x7) => listEnv [(2, .ptr 0 1 3 0 0), (4, .ptr 1 1 6 0 0), (7, .ptr 2 1 6 0 0), (19, .rows (a1.map TWeight.cells)), (20, i6 (a1.length : Int)), (21, i6 x7)]) (fun (x1, x2, x3, x4, x5, x6, x7) => [⟨3, [(TSpace.lit a0)], 0, none⟩, ⟨6, [GH_c0], 0, none⟩, ⟨6, [[bo x1, i6 x2, u6 x3, .rows (x4.map (cInt .u64)), .rows (x5.map TCell.cells), .rows (x6.map TWeight.cells)]], 0, none⟩]) (fun (x8, x9, x10, x11, x12, x13) => listEnv [(4, .ptr 0 1 6 0 0), (7, .ptr 1 1 6 0 0)]) (fun (x8, x9, x10, x11, x12, x13) => [⟨6, [GH_c0], 0, none⟩, ⟨6, [[bo x8, i6 x9, u6 x10, .rows (x11.map (cInt .u64)), .rows (x12.map TCell.cells), .rows (x13.map TWeight.cells)]], 0, none⟩]) hL1 (fun r_ => r = r_) ?_ ?_ ?_
    · rintro ⟨x8, x9, x10, x11, x12, x13⟩ rfl
      try dsimp only [Fin.on] at h
      refine .seq ?_
      obtain ⟨t18_1, g18_1, h⟩ := h
      refine .reg0 rfl (.o (ldG rfl sz33 ag33 rfl) <| .c rfl go45 rfl rfl rfl (weight_copied.D g18_1) <| .o (stB (cs0 := GH_c0) (cs := (TWeight.lit t18_1)) (cs1 := (TWeight.lit t18_1)) rfl rfl sz33 rfl ⟨Nat.le_of_ble_eq_true rfl, rfl⟩ rfl) <| .a rfl <| .nil0) ?_
      replace h := h.symm
      subst h
      refine .k [(4, .cptr (TWeight.lit t18_1) 0), (5, i6 0)] ⟨cFixP rfl rfl (.cons (.free rfl rfl) <| .cons (.free rfl rfl) <| .cons (.free rfl rfl) <| .cons (.free rfl rfl) <| .cons (.free rfl rfl) <| .cons (.free rfl rfl) <| .nil), .free rfl rfl, trivial⟩ ?_
      exact .ret rfl
    · rintro r_ rfl
      exact h
    · rintro ⟨x1, x2, x3, x4, x5, x6, x7⟩ z1 h hn1 hx1 hr1
      dsimp only [weight_Extend.b1] at h
      refine .seq <| .reg0 rfl (.op 0 rfl (ltI rfl rfl) <| .nil0) <| .seq ?_
      by_cases c4 : x7 < (a1.length : Int)
      · rw [if_pos c4] at h
        refine .condT rfl (dt c4) <| .skip <| .seq <| .block <| .seq ?_
        obtain ⟨g15_0, h⟩ := h
        refine .room 0 <| .reg0 rfl (.op 0 rfl (ixR (l := a1) (lit := TWeight.lit) sl31 rfl rfl TWeight.cells_lit g15_0.1 g15_0.2) <| .op 0 rfl (ldCG rfl sz33 ag33 rfl) <| .op 3 rfl (alP (s := 6) ze33 ⟨rfl, by decide, rfl⟩ rfl) <| .op 0 rfl (stB (cs0 := GH_c0) (cs := (TWeight.lit (rdl a1 x7))) (cs1 := (TWeight.lit (rdl a1 x7))) rfl rfl sz33 rfl ⟨Nat.le_of_ble_eq_true rfl, rfl⟩ rfl) <| .nil0) ?_
        obtain ⟨t16_3, g16_3, h⟩ := h
        refine .reg0 rfl (.o (ldG rfl sz25 ag25 rfl) <| .o (ldG rfl sz33 ag33 rfl) <| .o (ldG rfl sz33 ag33 rfl) <| .c rfl go49 rfl rfl rfl (weight_then.D g16_3) <| .o (stB (cs0 := [bo x1, i6 x2, u6 x3, .rows (x4.map (cInt .u64)), .rows (x5.map TCell.cells), .rows (x6.map TWeight.cells)]) (cs := (TWeight.lit t16_3)) (cs1 := (TWeight.lit t16_3)) rfl rfl sz33 rfl ⟨Nat.le_of_ble_eq_true rfl, rfl⟩ rfl) <| .nil0) ?_
        refine .inBlock <| .reg0 rfl (.op 0 rfl (addI rfl rfl) <| .op 0 rfl (mvV rfl) <| .nil0) <| .keepL [0, 1, 2] [(2, .ptr 0 1 3 0 0), (4, .ptr 1 1 6 0 0), (7, .ptr 2 1 6 0 0), (19, .rows (a1.map TWeight.cells)), (20, i6 (a1.length : Int)), (21, i6 (IntKind.i64.wrap (x7 + 1)))] [⟨3, [(TSpace.lit a0)], 0, none⟩, ⟨6, [GH_c0], 0, none⟩, ⟨6, [(TWeight.lit t16_3)], 0, none⟩] (by decide) (by decide) ⟨.ptr rfl, .ptr rfl, .ptr rfl, .free rfl rfl, .free rfl rfl, .free rfl rfl, trivial⟩ ⟨⟨_, rfl, bcBox (all2_free rfl)⟩, ⟨_, rfl, bcBox (all2_free rfl)⟩, ⟨_, rfl, bcBox (all2_free rfl)⟩, trivial⟩ ?_
        exact hn1 _ h
      · rw [if_neg c4] at h
        refine .condF rfl (df c4) <| .exit rfl <| .keepL [1, 2] [(4, .ptr 0 1 6 0 0), (7, .ptr 1 1 6 0 0)] [⟨6, [GH_c0], 0, none⟩, ⟨6, [[bo x1, i6 x2, u6 x3, .rows (x4.map (cInt .u64)), .rows (x5.map TCell.cells), .rows (x6.map TWeight.cells)]], 0, none⟩] (by decide) (by decide) ⟨.ptr rfl, .ptr rfl, trivial⟩ ⟨⟨_, rfl, bcBox (all2_free rfl)⟩, ⟨_, rfl, bcBox (all2_free rfl)⟩, trivial⟩ ?_
        exact hx1 _ h
  · rw [if_neg c1] at h
    refine .condT rfl (nt c1) <| .seq <| .reg0 rfl (.op 0 rfl (bldS (cs := GH_c0) ze33 pl33 rfl rfl) <| .op 0 rfl (mvV rfl) <| .op 0 rfl (stB (cs0 := GH_c0) (cs := GH_c0) (cs1 := GH_c0) rfl rfl sz33 rfl ⟨Nat.le_of_ble_eq_true rfl, rfl⟩ rfl) <| .op 0 rfl (asV rfl) <| .nil0) ?_
    replace h := h.symm
    subst h
    refine .k [(4, .cptr GH_c2 0), (5, i6 t2_2)] ⟨cFixP rfl rfl (.cons (.free rfl rfl) <| .cons (.free rfl rfl) <| .cons (.free rfl rfl) <| .cons (.nil) <| .cons (.nil) <| .cons (.nil) <| .nil), .free rfl rfl, trivial⟩ ?_
    exact .ret rfl
def r03_One.b1 (a0 : Int) : ((List Int) × Int) → Rnd (((List Int) × Int)) ((List Int)) (TFacts × Int) → Prop := fun (x2, x3) z1 => if x3 < a0 then (∃ t12_3 : Int, (r01_Worth.f x3 t12_3) ∧ ((Fits (x2.length + 1) 8)) ∧ z1 = .next ((x2 ++ [t12_3]), (IntKind.i64.wrap (x3 + 1)))) else (z1 = .exit x2)
def r03_One.f (a0 : Int) (r : TFacts × Int) : Prop :=
  ∃ t2_1 : Bool, (r03_dim.f a0 t2_1) ∧ if t2_1 = true then (∃ o1 : Fin ((List Int)) (TFacts × Int), Loop (r03_One.b1 a0) ([], 0) o1 ∧ o1.on (fun x4 => r = ((TFacts.mk 0 x4), 0)) (fun r_ => r = r_)) else (r = ((TFacts.mk 0 []), 31))
theorem r03_One.D {a0 r} (h : r03_One.f a0 r) : D Tryz.prog X (.callH 84 [.val (.int .i64 a0)] [] (.tuple [.agg (TFacts.lit r.1), .val (.int .i64 r.2)]) []) := by
  unfold r03_One.f at h
  refine .enter 24 0 fn84 rfl rfl rfl <| .seq <| .room 0 <| .reg0 rfl (.op 0 rfl (alP (s := 2) ze29 ⟨rfl, by decide, rfl⟩ rfl) <| .op 0 rfl (asV rfl) <| .nil0) <| .seq <| .seq ?_
  obtain ⟨t2_1, g2_1, h⟩ := h
  refine .reg0 rfl (.m rfl <| .c rfl go111 rfl rfl rfl (r03_dim.D g2_1) <| .o (notB rfl) <| .nil0) ?_
  by_cases c1 : t2_1 = true
  · rw [if_pos c1] at h
    refine .condF rfl (bnotF c1) <| .skip <| .seq <| .room 0 <| .reg0 rfl (.op 0 rfl (bldS (cs := [u6 0, nul]) ze29 pl29 rfl rfl) <| .op 1 rfl (alP (s := 2) ze29 ⟨rfl, by decide, rfl⟩ rfl) <| .op 0 rfl (stB (cs0 := [u6 0, nul]) (cs := [u6 0, nul]) (cs1 := [u6 0, nul]) rfl rfl sz29 rfl ⟨Nat.le_of_ble_eq_true rfl, rfl⟩ rfl) <| .nil0) <| .seq <| .seq <| .reg0 rfl (.op 0 rfl (asV rfl) <| .nil0) <| .block <| .room 1 <| .keepL [0, 1, 2] [(0, i6 a0), (2, .ptr 0 1 2 0 0), (4, .ptr 1 1 2 0 0), (5, i6 0)] [⟨2, [[u6 0, nul]], 0, none⟩, ⟨2, [[u6 0, .own 2 0]], 0, none⟩, ⟨1, [].map (cInt .u64), 0, none⟩] (by decide) (by decide) ⟨.free rfl rfl, .ptr rfl, .ptr rfl, .free rfl rfl, trivial⟩ ⟨⟨_, rfl, bcBox (all2_free rfl)⟩, ⟨_, rfl, bcBox (.cons (.free rfl rfl) <| .cons (.nilOwn) <| .nil)⟩, ⟨_, rfl, (bcRow (l := []) sl27 (Nat.le_refl _) rfl)⟩, trivial⟩ ?_
    obtain ⟨o1, hL1, h⟩ := h
    refine .loopB (r03_One.b1 a0) (fun (x2, x3) => listEnv [(0, i6 a0), (2, .ptr 0 1 2 0 0), (4, .ptr 1 1 2 0 0), (5, i6 x3)]) (fun (x2, x3) => [⟨2, [[u6 0, nul]], 0, none⟩, ⟨2, [[u6 0, .own 2 x2.length]], 0, none⟩, ⟨1, x2.map (cInt .u64), 0, none⟩]) (fun x4 => listEnv [(2, .ptr 0 1 2 0 0), (4, .ptr 1 1 2 0 0)]) (fun x4 => [⟨2, [[u6 0, nul]], 0, none⟩, ⟨2, [[u6 0, .own 2 x4.length]], 0, none⟩, ⟨1, x4.map (cInt .u64), 0, none⟩]) hL1 (fun r_ => r = r_) ?_ ?_ ?_
    · rintro x4 rfl
      try dsimp only [Fin.on] at h
      refine .seq <| .reg0 rfl (.op 0 rfl (ldG rfl sz29 ag29 rfl) <| .op 0 rfl (stB (cs0 := [u6 0, nul]) (cs := [u6 0, .own 2 x4.length]) (cs1 := [u6 0, .own 2 x4.length]) rfl rfl sz29 rfl ⟨Nat.le_of_ble_eq_true rfl, rfl⟩ rfl) <| .op 0 rfl (asV rfl) <| .nil0) ?_
      replace h := h.symm
      subst h
      refine .k [(2, .cptr [u6 0, .rows (x4.map (cInt .u64))] 0), (3, i6 0)] ⟨cFixP rfl rfl (.cons (.free rfl rfl) <| .cons (cFixO (l := x4) sl27 rfl rfl rfl rfl) <| .nil), .free rfl rfl, trivial⟩ ?_
      exact .ret rfl
    · rintro r_ rfl
      exact h
    · rintro ⟨x2, x3⟩ z1 h hn1 hx1 hr1
      dsimp only [r03_One.b1] at h
      refine .seq <| .seq <| .reg0 rfl (.op 0 rfl (mvV rfl) <| .op 0 rfl (mvV rfl) <| .op 0 rfl (ltI rfl rfl) <| .nil0) ?_
      by_cases c4 : x3 < a0
      · rw [if_pos c4] at h
        refine .condT rfl (dt c4) <| .skip <| .seq <| .block ?_
        obtain ⟨t12_3, g12_3, h⟩ := h
        obtain ⟨g12_5, h⟩ := h
        refine .room 0 <| .room 0 ?_
        refine .reg1 (e1 := listEnv [(0, i6 a0), (2, .ptr 0 1 2 0 0), (4, .ptr 1 1 2 0 0), (5, i6 x3)]) (H1 := [⟨2, [[u6 0, nul]], 0, none⟩, ⟨2, [[u6 0, .own 2 ((x2 ++ [t12_3]).length)]], 0, none⟩, ⟨1, (x2 ++ [t12_3]).map (cInt .u64), 0, none⟩, ⟨1, [t12_3].map (cInt .u64), 0, none⟩, Blk.hole]) rfl ?_ ?_
        · exact .drawM [(6, 22, .ptr 1 1 2 0 1), (5, 21, .own 2 ((x2 ++ [t12_3]).length)), (4, 20, .own 3 ([t12_3].length)), (3, 19, u6 t12_3), (2, 18, i6 x3), (1, 17, .own 2 x2.length), (0, 16, .ptr 1 1 2 0 1)] [(7, 1, ⟨2, [[u6 0, .own 2 ((x2 ++ [t12_3]).length)]], 0, none⟩), (5, 2, ⟨1, (x2 ++ [t12_3]).map (cInt .u64), 0, none⟩), (4, 3, ⟨1, [t12_3].map (cInt .u64), 0, none⟩)] [[], [0], [], [2], [3, 2], [1, 0, 4, 3, 2], [0, 1, 2, 3, 4, 5], [6, 0, 1, 2, 3, 4, 5]] (by rfl) (by rfl) (by rfl) (by exact ⟨oP (fun _ => faP fa29_1 rfl) rfl, oP (fun _ => ldP rfl sz27 ag27 rfl) rfl, oP (fun _ => mvV rfl) rfl, fun S hS hD hn => .oneI hS hD hn rfl rfl (callee_of rfl go85 rfl) (.pure rfl rfl (r01_Worth.D g12_3)) rfl rfl rfl, oW 3 (fun _ => bldL (s := 1) (cs := [u6 t12_3]) un27 sz26 ze26 ⟨by decide, rfl, by decide⟩ rfl rfl rfl rfl) rfl fun _ => rfl, oW 0 (fun _ => ap1 (l := x2) t12_3 sl27 rfl rfl rfl (Nat.zero_le _) (elems_own (l := [t12_3]) rfl rfl) g12_5) rfl fun _ => rfl, oP (fun _ => faP fa29_1 rfl) rfl, fun S hS hD hn => .one0 0 rfl rfl (stB (cs0 := [u6 0, .own 2 x2.length]) (cs := [.own 2 ((x2 ++ [t12_3]).length)]) (cs1 := [u6 0, .own 2 ((x2 ++ [t12_3]).length)]) rfl rfl sz27 rfl ⟨Nat.le_of_ble_eq_true rfl, rfl⟩ rfl) (drawE_other _ _ _ _ rfl) rfl, trivial⟩) _ (by exact ⟨.free rfl rfl, .ptr rfl, .ptr rfl, .free rfl rfl, trivial⟩) (by rfl)
        refine .inBlock <| .reg0 rfl (.op 0 rfl (mvV rfl) <| .op 0 rfl (addI rfl rfl) <| .op 0 rfl (asV rfl) <| .nil0) <| .keepL [0, 1, 2] [(0, i6 a0), (2, .ptr 0 1 2 0 0), (4, .ptr 1 1 2 0 0), (5, i6 (IntKind.i64.wrap (x3 + 1)))] [⟨2, [[u6 0, nul]], 0, none⟩, ⟨2, [[u6 0, .own 2 ((x2 ++ [t12_3]).length)]], 0, none⟩, ⟨1, (x2 ++ [t12_3]).map (cInt .u64), 0, none⟩] (by decide) (by decide) ⟨.free rfl rfl, .ptr rfl, .ptr rfl, .free rfl rfl, trivial⟩ ⟨⟨_, rfl, bcBox (all2_free rfl)⟩, ⟨_, rfl, bcBox (.cons (.free rfl rfl) <| .cons (.own rfl) <| .nil)⟩, ⟨_, rfl, bcRow (l := (x2 ++ [t12_3])) sl27 (Nat.le_refl _) rfl⟩, trivial⟩ ?_
        exact hn1 _ h
      · rw [if_neg c4] at h
        refine .condF rfl (df c4) <| .exit rfl <| .keepL [0, 1, 2] [(2, .ptr 0 1 2 0 0), (4, .ptr 1 1 2 0 0)] [⟨2, [[u6 0, nul]], 0, none⟩, ⟨2, [[u6 0, .own 2 x2.length]], 0, none⟩, ⟨1, x2.map (cInt .u64), 0, none⟩] (by decide) (by decide) ⟨.ptr rfl, .ptr rfl, trivial⟩ ⟨⟨_, rfl, bcBox (all2_free rfl)⟩, ⟨_, rfl, bcBox (.cons (.free rfl rfl) <| .cons (.own rfl) <| .nil)⟩, ⟨_, rfl, bcRow (l := x2) sl27 (Nat.le_refl _) rfl⟩, trivial⟩ ?_
        exact hx1 _ h
  · rw [if_neg c1] at h
    refine .condT rfl (bnotT (nb c1)) <| .seq <| .reg0 rfl (.op 0 rfl (bldS (cs := [u6 0, nul]) ze29 pl29 rfl rfl) <| .op 0 rfl (stB (cs0 := [u6 0, nul]) (cs := [u6 0, nul]) (cs1 := [u6 0, nul]) rfl rfl sz29 rfl ⟨Nat.le_of_ble_eq_true rfl, rfl⟩ rfl) <| .op 0 rfl (asV rfl) <| .nil0) ?_
    replace h := h.symm
    subst h
    refine .k [(2, .cptr [u6 0, .rows (([] : List Int).map (cInt .u64))] 0), (3, i6 31)] ⟨cFixP rfl rfl (.cons (.free rfl rfl) <| .cons (.nil) <| .nil), .free rfl rfl, trivial⟩ ?_
    exact .ret rfl
def r05_one.b1 (a0 : TSpace) : ((List TCell) × Int) → Rnd (((List TCell) × Int)) ((List TCell)) TWeight → Prop := fun (x2, x3) z1 => if x3 < a0.Dim then (∃ t16_3 : Int, (r01_Worth.f x3 t16_3) ∧ ((Fits (x2.length + 1) 24)) ∧ z1 = .next ((x2 ++ [(TCell.mk t16_3 0 0)]), (IntKind.i64.wrap (x3 + 1)))) else (z1 = .exit x2)
def r05_one.step (self50 : TSpace → TWeight → Prop) (a0 : TSpace) (r : TWeight) : Prop :=
  if a0.Tag = 3 then (∃ t5_2 : TFacts × Int, (r03_One.f a0.Dim t5_2) ∧ r = (TWeight.mk false 0 t5_2.1 [] [])) else (if a0.Tag = 4 then (∃ o1 : Fin ((List TCell)) TWeight, Loop (r05_one.b1 a0) ([], 0) o1 ∧ o1.on (fun x4 => r = (TWeight.mk false 0 (TFacts.mk 0 []) x4 [])) (fun r_ => r = r_)) else (if a0.Tag = 5 then (((InR 0 a0.Parts.length)) ∧ ∃ t20_4 : TWeight, (self50 (rdl a0.Parts 0) t20_4) ∧ ((InR 1 a0.Parts.length)) ∧ ∃ t20_9 : TWeight, (self50 (rdl a0.Parts 1) t20_9) ∧ r = (TWeight.mk false 0 (TFacts.mk 0 []) [] [t20_4, t20_9])) else (r = (TWeight.mk false 0 (TFacts.mk 0 []) [] []))))
theorem r05_one.stepD {self50 : TSpace → TWeight → Prop} {a0 : TSpace} (hs50 : ∀ z0_ r_, self50 z0_ r_ → D Tryz.prog X (.callH 50 [.agg (TSpace.lit z0_)] [] (.agg (TWeight.lit r_)) [])) {r : TWeight} (h : r05_one.step self50 a0 r) : D Tryz.prog X (.callH 50 [.agg (TSpace.lit a0)] [] (.agg (TWeight.lit r)) []) := by
  unfold r05_one.step at h
  refine .enter 48 0 fn50 rfl rfl rfl <| .seq <| .room 0 <| .room 0 <| .reg0 rfl (.op 0 rfl (bxP (s := 3) (cs := (TSpace.lit a0)) rfl ⟨rfl, by decide, rfl⟩ rfl) <| .op 1 rfl (alP (s := 6) ze33 ⟨rfl, by decide, rfl⟩ rfl) <| .nil0) <| .seq <| .room 0 <| .reg0 rfl (.op 0 rfl (bldS (cs := GH_c0) ze33 pl33 rfl rfl) <| .op 2 rfl (alP (s := 6) ze33 ⟨rfl, by decide, rfl⟩ rfl) <| .op 0 rfl (stB (cs0 := GH_c0) (cs := GH_c0) (cs1 := GH_c0) rfl rfl sz33 rfl ⟨Nat.le_of_ble_eq_true rfl, rfl⟩ rfl) <| .nil0) ?_
  refine .seq <| .seq <| .reg0 rfl (.op 0 rfl (faP fa25_0 rfl) <| .op 0 rfl (ldP rfl sz22 ag22 rfl) <| .nil0) <| .block <| .seq <| .reg0 rfl (.op 0 rfl (eqI rfl rfl) <| .op 0 rfl (asV rfl) <| .nil0) ?_
  by_cases c1 : a0.Tag = 3
  · rw [if_pos c1] at h
    refine .condT rfl (bt c1) ?_
    obtain ⟨t5_2, g5_2, h⟩ := h
    refine .reg0 rfl (.o (faP fa25_1 rfl) <| .o (ldP rfl sz3 ag3 rfl) <| .c rfl go84 rfl rfl rfl (r03_One.D g5_2) <| .o (mvT rfl) <| .o (exT rfl rfl) <| .o (exT rfl rfl) <| .o (faP fa33_2 rfl) <| .o (stB (cs0 := GH_c0) (cs := (TFacts.lit t5_2.1)) (cs1 := [bo false, i6 0, u6 t5_2.1.Gen, .rows (t5_2.1.Rows.map (cInt .u64)), nul, nul]) rfl rfl sz29 rfl ⟨Nat.le_of_ble_eq_true rfl, rfl⟩ rfl) <| .nil0) ?_
    refine .inBlock <| .seq <| .reg0 rfl (.op 0 rfl (ldG rfl sz33 ag33 rfl) <| .op 0 rfl (stB (cs0 := GH_c0) (cs := [bo false, i6 0, u6 t5_2.1.Gen, .rows (t5_2.1.Rows.map (cInt .u64)), nul, nul]) (cs1 := [bo false, i6 0, u6 t5_2.1.Gen, .rows (t5_2.1.Rows.map (cInt .u64)), nul, nul]) rfl rfl sz33 rfl ⟨Nat.le_of_ble_eq_true rfl, rfl⟩ rfl) <| .nil0) ?_
    replace h := h.symm
    subst h
    refine .k [(2, .cptr [bo false, i6 0, u6 t5_2.1.Gen, .rows (t5_2.1.Rows.map (cInt .u64)), .rows (([] : List TCell).map TCell.cells), .rows (([] : List TWeight).map TWeight.cells)] 0)] ⟨cFixP rfl rfl (.cons (.free rfl rfl) <| .cons (.free rfl rfl) <| .cons (.free rfl rfl) <| .cons (.free rfl rfl) <| .cons (.nil) <| .cons (.nil) <| .nil), trivial⟩ ?_
    exact .ret rfl
  · rw [if_neg c1] at h
    refine .condF rfl (bn c1) <| .seq <| .reg0 rfl (.op 0 rfl (eqI rfl rfl) <| .op 0 rfl (asV rfl) <| .nil0) ?_
    by_cases c2 : a0.Tag = 4
    · rw [if_pos c2] at h
      refine .condT rfl (bt c2) <| .seq <| .reg0 rfl (.op 0 rfl (asV rfl) <| .nil0) <| .block <| .room 3 <| .keepL [0, 1, 2, 3] [(1, .ptr 0 1 3 0 0), (2, .ptr 1 1 6 0 0), (3, .ptr 2 1 6 0 0), (4, i6 0)] [⟨3, [(TSpace.lit a0)], 0, none⟩, ⟨6, [GH_c0], 0, none⟩, ⟨6, [[bo false, i6 0, u6 0, nul, .own 3 0, nul]], 0, none⟩, ⟨3, [].map TCell.cells, 0, none⟩] (by decide) (by decide) ⟨.ptr rfl, .ptr rfl, .ptr rfl, .free rfl rfl, trivial⟩ ⟨⟨_, rfl, bcBox (all2_free rfl)⟩, ⟨_, rfl, bcBox (all2_free rfl)⟩, ⟨_, rfl, bcBox (.cons (.free rfl rfl) <| .cons (.free rfl rfl) <| .cons (.free rfl rfl) <| .cons (.free rfl rfl) <| .cons (.nilOwn) <| .cons (.free rfl rfl) <| .nil)⟩, ⟨_, rfl, (bcRow (l := []) sl30 (Nat.le_refl _) rfl)⟩, trivial⟩ ?_
      obtain ⟨o1, hL1, h⟩ := h
      refine .loopB (r05_one.b1 a0) (fun (x2, x3) => listEnv [(1, .ptr 0 1 3 0 0), (2, .ptr 1 1 6 0 0), (3, .ptr 2 1 6 0 0), (4, i6 x3)]) (fun (x2, x3) => [⟨3, [(TSpace.lit a0)], 0, none⟩, ⟨6, [GH_c0], 0, none⟩, ⟨6, [[bo false, i6 0, u6 0, nul, .own 3 x2.length, nul]], 0, none⟩, ⟨3, x2.map TCell.cells, 0, none⟩]) (fun x4 => listEnv [(2, .ptr 0 1 6 0 0), (3, .ptr 1 1 6 0 0)]) (fun x4 => [⟨6, [GH_c0], 0, none⟩, ⟨6, [[bo false, i6 0, u6 0, nul, .own 2 x4.length, nul]], 0, none⟩, ⟨3, x4.map TCell.cells, 0, none⟩]) hL1 (fun r_ => r = r_) ?_ ?_ ?_
      · rintro x4 rfl
        try dsimp only [Fin.on] at h
        refine .inBlock <| .seq <| .reg0 rfl (.op 0 rfl (ldG rfl sz33 ag33 rfl) <| .op 0 rfl (stB (cs0 := GH_c0) (cs := [bo false, i6 0, u6 0, nul, .own 2 x4.length, nul]) (cs1 := [bo false, i6 0, u6 0, nul, .own 2 x4.length, nul]) rfl rfl sz33 rfl ⟨Nat.le_of_ble_eq_true rfl, rfl⟩ rfl) <| .nil0) ?_
        replace h := h.symm
        subst h
        refine .k [(2, .cptr [bo false, i6 0, u6 0, .rows (([] : List Int).map (cInt .u64)), .rows (x4.map TCell.cells), .rows (([] : List TWeight).map TWeight.cells)] 0)] ⟨cFixP rfl rfl (.cons (.free rfl rfl) <| .cons (.free rfl rfl) <| .cons (.free rfl rfl) <| .cons (.nil) <| .cons (cFixO (l := x4) sl30 rfl rfl rfl rfl) <| .cons (.nil) <| .nil), trivial⟩ ?_
        exact .ret rfl
      · rintro r_ rfl
        exact h
      · rintro ⟨x2, x3⟩ z1 h hn1 hx1 hr1
        dsimp only [r05_one.b1] at h
        refine .seq <| .seq <| .reg0 rfl (.op 0 rfl (mvV rfl) <| .op 0 rfl (faP fa25_1 rfl) <| .op 0 rfl (ldP rfl sz3 ag3 rfl) <| .op 0 rfl (ltI rfl rfl) <| .nil0) ?_
        by_cases c5 : x3 < a0.Dim
        · rw [if_pos c5] at h
          refine .condT rfl (dt c5) <| .skip <| .seq <| .block ?_
          obtain ⟨t16_3, g16_3, h⟩ := h
          obtain ⟨g16_6, h⟩ := h
          refine .room 0 <| .room 0 ?_
          refine .reg1 (e1 := listEnv [(1, .ptr 0 1 3 0 0), (2, .ptr 1 1 6 0 0), (3, .ptr 2 1 6 0 0), (4, i6 x3)]) (H1 := [⟨3, [(TSpace.lit a0)], 0, none⟩, ⟨6, [GH_c0], 0, none⟩, ⟨6, [[bo false, i6 0, u6 0, nul, .own 3 ((x2 ++ [(TCell.mk t16_3 0 0)]).length), nul]], 0, none⟩, ⟨3, (x2 ++ [(TCell.mk t16_3 0 0)]).map TCell.cells, 0, none⟩, ⟨3, [(TCell.mk t16_3 0 0)].map TCell.cells, 0, none⟩, Blk.hole]) rfl ?_ ?_
          · exact .drawM [(7, 32, .ptr 2 1 6 0 4), (6, 31, .own 3 ((x2 ++ [(TCell.mk t16_3 0 0)]).length)), (5, 30, .own 4 ([(TCell.mk t16_3 0 0)].length)), (4, 29, .agg [u6 t16_3, i6 0, i6 0]), (3, 28, u6 t16_3), (2, 27, i6 x3), (1, 26, .own 3 x2.length), (0, 25, .ptr 2 1 6 0 4)] [(8, 2, ⟨6, [[bo false, i6 0, u6 0, nul, .own 3 ((x2 ++ [(TCell.mk t16_3 0 0)]).length), nul]], 0, none⟩), (6, 3, ⟨3, (x2 ++ [(TCell.mk t16_3 0 0)]).map TCell.cells, 0, none⟩), (5, 4, ⟨3, [(TCell.mk t16_3 0 0)].map TCell.cells, 0, none⟩)] [[], [0], [], [2], [3, 2], [4, 3, 2], [1, 0, 5, 4, 3, 2], [0, 1, 2, 3, 4, 5, 6], [7, 0, 1, 2, 3, 4, 5, 6]] (by rfl) (by rfl) (by rfl) (by exact ⟨oP (fun _ => faP fa33_3 rfl) rfl, oP (fun _ => ldP rfl sz30 ag30 rfl) rfl, oP (fun _ => mvV rfl) rfl, fun S hS hD hn => .oneI hS hD hn rfl rfl (callee_of rfl go85 rfl) (.pure rfl rfl (r01_Worth.D g16_3)) rfl rfl rfl, oP (fun _ => bldS (cs := [u6 t16_3, i6 0, i6 0]) ze74 pl74 rfl rfl) rfl, oW 4 (fun _ => bldL (s := 3) (cs := [u6 t16_3, i6 0, i6 0]) un30 sz74 ze74 ⟨by decide, rfl, by decide⟩ rfl rfl rfl rfl) rfl fun _ => rfl, oW 0 (fun _ => ap1 (l := x2) (TCell.mk t16_3 0 0) sl30 rfl rfl rfl (Nat.zero_le _) (elems_own (l := [(TCell.mk t16_3 0 0)]) rfl rfl) g16_6) rfl fun _ => rfl, oP (fun _ => faP fa33_3 rfl) rfl, fun S hS hD hn => .one0 0 rfl rfl (stB (cs0 := [bo false, i6 0, u6 0, nul, .own 3 x2.length, nul]) (cs := [.own 3 ((x2 ++ [(TCell.mk t16_3 0 0)]).length)]) (cs1 := [bo false, i6 0, u6 0, nul, .own 3 ((x2 ++ [(TCell.mk t16_3 0 0)]).length), nul]) rfl rfl sz30 rfl ⟨Nat.le_of_ble_eq_true rfl, rfl⟩ rfl) (drawE_other _ _ _ _ rfl) rfl, trivial⟩) _ (by exact ⟨.ptr rfl, .ptr rfl, .ptr rfl, .free rfl rfl, trivial⟩) (by rfl)
          refine .inBlock <| .reg0 rfl (.op 0 rfl (mvV rfl) <| .op 0 rfl (addI rfl rfl) <| .op 0 rfl (asV rfl) <| .nil0) <| .keepL [0, 1, 2, 3] [(1, .ptr 0 1 3 0 0), (2, .ptr 1 1 6 0 0), (3, .ptr 2 1 6 0 0), (4, i6 (IntKind.i64.wrap (x3 + 1)))] [⟨3, [(TSpace.lit a0)], 0, none⟩, ⟨6, [GH_c0], 0, none⟩, ⟨6, [[bo false, i6 0, u6 0, nul, .own 3 ((x2 ++ [(TCell.mk t16_3 0 0)]).length), nul]], 0, none⟩, ⟨3, (x2 ++ [(TCell.mk t16_3 0 0)]).map TCell.cells, 0, none⟩] (by decide) (by decide) ⟨.ptr rfl, .ptr rfl, .ptr rfl, .free rfl rfl, trivial⟩ ⟨⟨_, rfl, bcBox (all2_free rfl)⟩, ⟨_, rfl, bcBox (all2_free rfl)⟩, ⟨_, rfl, bcBox (.cons (.free rfl rfl) <| .cons (.free rfl rfl) <| .cons (.free rfl rfl) <| .cons (.free rfl rfl) <| .cons (.own rfl) <| .cons (.free rfl rfl) <| .nil)⟩, ⟨_, rfl, bcRow (l := (x2 ++ [(TCell.mk t16_3 0 0)])) sl30 (Nat.le_refl _) rfl⟩, trivial⟩ ?_
          exact hn1 _ h
        · rw [if_neg c5] at h
          refine .condF rfl (df c5) <| .exit rfl <| .keepL [1, 2, 3] [(2, .ptr 0 1 6 0 0), (3, .ptr 1 1 6 0 0)] [⟨6, [GH_c0], 0, none⟩, ⟨6, [[bo false, i6 0, u6 0, nul, .own 2 x2.length, nul]], 0, none⟩, ⟨3, x2.map TCell.cells, 0, none⟩] (by decide) (by decide) ⟨.ptr rfl, .ptr rfl, trivial⟩ ⟨⟨_, rfl, bcBox (all2_free rfl)⟩, ⟨_, rfl, bcBox (.cons (.free rfl rfl) <| .cons (.free rfl rfl) <| .cons (.free rfl rfl) <| .cons (.free rfl rfl) <| .cons (.own rfl) <| .cons (.free rfl rfl) <| .nil)⟩, ⟨_, rfl, bcRow (l := x2) sl30 (Nat.le_refl _) rfl⟩, trivial⟩ ?_
          exact hx1 _ h
    · rw [if_neg c2] at h
      refine .condF rfl (bn c2) <| .seq <| .reg0 rfl (.op 0 rfl (eqI rfl rfl) <| .op 0 rfl (asV rfl) <| .nil0) ?_
      by_cases c6 : a0.Tag = 5
      · rw [if_pos c6] at h
        refine .condT rfl (bt c6) ?_
        obtain ⟨g20_2, h⟩ := h
        obtain ⟨t20_4, g20_4, h⟩ := h
        obtain ⟨g20_7, h⟩ := h
        obtain ⟨t20_9, g20_9, h⟩ := h
        refine .room 0 ?_
        refine .reg1 (e1 := listEnv [(2, .ptr 1 1 6 0 0), (3, .ptr 2 1 6 0 0)]) (H1 := [⟨3, [(TSpace.lit a0)], 0, none⟩, ⟨6, [GH_c0], 0, none⟩, ⟨6, [[bo false, i6 0, u6 0, nul, nul, .own 3 ([t20_4, t20_9].length)]], 0, none⟩, ⟨6, [t20_4, t20_9].map TWeight.cells, 0, none⟩]) rfl ?_ ?_
        · exact .drawM [(11, 46, .ptr 2 1 6 0 5), (10, 45, .own 3 ([t20_4, t20_9].length)), (9, 44, .agg (TWeight.lit t20_9)), (8, 43, .agg (TSpace.lit (rdl a0.Parts 1))), (7, 42, .cptr (TSpace.lit (rdl a0.Parts 1)) 0), (6, 41, .rows (a0.Parts.map TSpace.cells)), (5, 40, .ptr 0 1 3 0 2), (4, 39, .agg (TWeight.lit t20_4)), (3, 38, .agg (TSpace.lit (rdl a0.Parts 0))), (2, 37, .cptr (TSpace.lit (rdl a0.Parts 0)) 0), (1, 36, .rows (a0.Parts.map TSpace.cells)), (0, 35, .ptr 0 1 3 0 2)] [(12, 2, ⟨6, [[bo false, i6 0, u6 0, nul, nul, .own 3 ([t20_4, t20_9].length)]], 0, none⟩), (10, 3, ⟨6, [t20_4, t20_9].map TWeight.cells, 0, none⟩)] [[], [0], [1, 0], [2, 1, 0], [3, 2, 1, 0], [], [5], [6, 5], [7, 6, 5], [8, 7, 6, 5, 4, 3, 2, 1, 0], [4, 3, 2, 1, 0, 9, 8, 7, 6, 5], [0, 1, 2, 3, 4, 5, 6, 7, 8, 9, 10], [11, 0, 1, 2, 3, 4, 5, 6, 7, 8, 9, 10]] (by rfl) (by rfl) (by rfl) (by exact ⟨oP (fun _ => faP fa25_2 rfl) rfl, oP (fun _ => ldP rfl sz23 ag23 rfl) rfl, oP (fun _ => ixR (l := a0.Parts) (lit := TSpace.lit) sl23 rfl rfl TSpace.cells_lit g20_2.1 g20_2.2) rfl, oP (fun _ => ldCG rfl sz25 ag25 rfl) rfl, fun S hS hD hn => .oneI hS hD hn rfl rfl (callee_of rfl go50 rfl) (.pure rfl rfl (hs50 _ _ g20_4)) rfl rfl rfl, oP (fun _ => faP fa25_2 rfl) rfl, oP (fun _ => ldP rfl sz23 ag23 rfl) rfl, oP (fun _ => ixR (l := a0.Parts) (lit := TSpace.lit) sl23 rfl rfl TSpace.cells_lit g20_7.1 g20_7.2) rfl, oP (fun _ => ldCG rfl sz25 ag25 rfl) rfl, fun S hS hD hn => .oneI hS hD hn rfl rfl (callee_of rfl go50 rfl) (.pure rfl rfl (hs50 _ _ g20_9)) rfl rfl rfl, oW 3 (fun _ => bldT (s := 6) (cs := [bo t20_4.Zero, i6 t20_4.Cost, u6 t20_4.Facts.Gen, .rows (t20_4.Facts.Rows.map (cInt .u64)), .rows (t20_4.Cells.map TCell.cells), .rows (t20_4.Parts.map TWeight.cells), bo t20_9.Zero, i6 t20_9.Cost, u6 t20_9.Facts.Gen, .rows (t20_9.Facts.Rows.map (cInt .u64)), .rows (t20_9.Cells.map TCell.cells), .rows (t20_9.Parts.map TWeight.cells)]) (cf := TWeight.cells) [t20_4, t20_9] un31 sz33 ze33 ⟨by decide, rfl, by decide⟩ rfl rfl rfl (by simp only [List.map, TWeight.cells_lit]; rfl) rfl) rfl fun _ => rfl, oP (fun _ => faP fa33_4 rfl) rfl, fun S hS hD hn => .one0 0 rfl rfl (stB (cs0 := GH_c0) (cs := [.own 3 ([t20_4, t20_9].length)]) (cs1 := [bo false, i6 0, u6 0, nul, nul, .own 3 ([t20_4, t20_9].length)]) rfl rfl sz31 rfl ⟨Nat.le_of_ble_eq_true rfl, rfl⟩ rfl) (drawE_other _ _ _ _ rfl) rfl, trivial⟩) _ (by exact ⟨.ptr rfl, .ptr rfl, trivial⟩) (by rfl)
        refine .inBlock <| .seq <| .reg0 rfl (.op 0 rfl (ldG rfl sz33 ag33 rfl) <| .op 0 rfl (stB (cs0 := GH_c0) (cs := [bo false, i6 0, u6 0, nul, nul, .own 3 ([t20_4, t20_9].length)]) (cs1 := [bo false, i6 0, u6 0, nul, nul, .own 3 ([t20_4, t20_9].length)]) rfl rfl sz33 rfl ⟨Nat.le_of_ble_eq_true rfl, rfl⟩ rfl) <| .nil0) ?_
        replace h := h.symm
        subst h
        refine .k [(2, .cptr [bo false, i6 0, u6 0, .rows (([] : List Int).map (cInt .u64)), .rows (([] : List TCell).map TCell.cells), .rows ([t20_4, t20_9].map TWeight.cells)] 0)] ⟨cFixP rfl rfl (.cons (.free rfl rfl) <| .cons (.free rfl rfl) <| .cons (.free rfl rfl) <| .cons (.nil) <| .cons (.nil) <| .cons (cFixO (l := [t20_4, t20_9]) sl31 rfl rfl rfl rfl) <| .nil), trivial⟩ ?_
        exact .ret rfl
      · rw [if_neg c6] at h
        refine .condF rfl (bn c6) <| .skip <| .inBlock <| .seq <| .reg0 rfl (.op 0 rfl (ldG rfl sz33 ag33 rfl) <| .op 0 rfl (stB (cs0 := GH_c0) (cs := GH_c0) (cs1 := GH_c0) rfl rfl sz33 rfl ⟨Nat.le_of_ble_eq_true rfl, rfl⟩ rfl) <| .nil0) ?_
        replace h := h.symm
        subst h
        refine .k [(2, .cptr GH_c2 0)] ⟨cFixP rfl rfl (.cons (.free rfl rfl) <| .cons (.free rfl rfl) <| .cons (.free rfl rfl) <| .cons (.nil) <| .cons (.nil) <| .cons (.nil) <| .nil), trivial⟩ ?_
        exact .ret rfl
def r05_one.fN : Nat → TSpace → TWeight → Prop
  | 0 => fun _ _ => False
  | n + 1 => r05_one.step (r05_one.fN n)
theorem r05_one.ND : ∀ (n : Nat) {a0 : TSpace} {r : TWeight} (h : r05_one.fN n a0 r), D Tryz.prog X (.callH 50 [.agg (TSpace.lit a0)] [] (.agg (TWeight.lit r)) [])
  | 0, _, _, h => h.elim
  | n + 1, _, _, h => r05_one.stepD (fun _ _ h => r05_one.ND n h) h
def r05_one.f (a0 : TSpace) (r : TWeight) : Prop := ∃ n, r05_one.fN n a0 r
theorem r05_one.D {a0 r} (h : r05_one.f a0 r) : D Tryz.prog X (.callH 50 [.agg (TSpace.lit a0)] [] (.agg (TWeight.lit r)) []) := by obtain ⟨n, h⟩ := h; exact r05_one.ND n h
def r01_Has.f (a0 : Int) (a1 : Int) (r : Bool) : Prop :=
  ∃ t2_9 : Int, ((a1 ≥ 0) → (a1 < 64) → r01_Worth.f a1 t2_9) ∧ ((a1 ≥ 0) → (a1 < 64) → ((t2_9 : Int) ≠ 0)) ∧ r = ((decide (a1 ≥ 0)) && ((decide (a1 < 64)) && ((Int.tmod (IntKind.u64.wrap (Int.tdiv a0 t2_9)) 2) == 1)))
theorem r01_Has.D {a0 a1 r} (h : r01_Has.f a0 a1 r) : D Tryz.prog X (.callH 130 [.val (.int .u64 a0), .val (.int .i64 a1)] [] (.val (.bool r)) []) := by
  unfold r01_Has.f at h
  refine .enter 19 0 fn130 rfl rfl rfl <| .seq <| .reg0 rfl (.op 0 rfl (asV rfl) <| .nil0) <| .seq ?_
  obtain ⟨t2_9, g2_9, h⟩ := h
  obtain ⟨g2_10, h⟩ := h
  refine .reg0 (e1 := listEnv [(4, bo ((decide (a1 ≥ 0)) && ((decide (a1 < 64)) && ((Int.tmod (IntKind.u64.wrap (Int.tdiv a0 t2_9)) 2) == 1))))]) (H1 := []) rfl ?_ ?_
  · refine .m rfl <| .o (geI rfl rfl) <| .m rfl <| ?_
    by_cases c1 : a1 ≥ 0
    · refine .g rfl (dt c1) (mvV rfl) <| .g rfl (dt c1) (ltI rfl rfl) <| .o (pkTV rfl (dt c1) rfl) <| .m rfl <| ?_
      by_cases c2 : a1 < 64
      · exact (.g rfl (dt c2) (mvV rfl) <| .g rfl (dt c2) (mvV rfl) <| .callI (gT rfl rfl rfl (dt c2)) (callee_of rfl go85 rfl) (.pure rfl rfl (r01_Worth.D (g2_9 c1 c2))) <| .g rfl (dt c2) (quoI rfl rfl (g2_10 c1 c2)) <| .g rfl (dt c2) (remI rfl rfl (by decide)) <| .g rfl (dt c2) (eqI rfl rfl) <| .o (pkTV rfl (dt c2) rfl) <| .a rfl <| .nilL _ ⟨cB rfl (mAndT (dt c1) (mAndT (dt c2) rfl)), trivial⟩)
      · exact (.n rfl (df c2) <| .n rfl (df c2) <| .n rfl (df c2) <| .n rfl (df c2) <| .n rfl (df c2) <| .n rfl (df c2) <| .o (pkFV rfl (df c2) rfl) <| .a rfl <| .nilL _ ⟨cB rfl (mAndT (dt c1) (mAndF (df c2))), trivial⟩)
    · exact (.n rfl (df c1) <| .n rfl (df c1) <| .o (pkFV rfl (df c1) rfl) <| .m rfl <| .n rfl rfl <| .n rfl rfl <| .n rfl rfl <| .n rfl rfl <| .n rfl rfl <| .n rfl rfl <| .o (pkFV rfl rfl rfl) <| .a rfl <| .nilL _ ⟨cB rfl (mAndF (df c1)), trivial⟩)
  replace h := h.symm
  subst h
  refine .kf [(4, bo ((decide (a1 ≥ 0)) && ((decide (a1 < 64)) && ((Int.tmod (IntKind.u64.wrap (Int.tdiv a0 t2_9)) 2) == 1))))] rfl rfl ?_
  exact .ret rfl
def r03_made.j1 (x4 : Int) : Int → (Rnd ((Int × Int)) Int Int) → Prop := fun x9 z1 => z1 = .next (x9, (IntKind.i64.wrap (x4 + 1)))
def r03_made.b1 (a0 : TFacts) (a1 : Int) : (Int × Int) → Rnd ((Int × Int)) Int Int → Prop := fun (x3, x4) z1 => if x4 < (a0.Rows.length : Int) then (∃ t24_2 : Bool, (r01_Has.f a1 x4 t24_2) ∧ if t24_2 = true then (((InR x4 a0.Rows.length)) ∧ ∃ t27_6 : Int, (r03_or.f x3 (rdl a0.Rows x4) t27_6) ∧ r03_made.j1 x4 t27_6 z1) else (r03_made.j1 x4 x3 z1)) else (z1 = .exit x3)
def r03_made.f (a0 : TFacts) (a1 : Int) (r : Int) : Prop :=
  ∃ o1 : Fin Int Int, Loop (r03_made.b1 a0 a1) (a0.Gen, 0) o1 ∧ o1.on (fun x7 => r = x7) (fun r_ => r = r_)
theorem r03_made.D {a0 a1 r} (h : r03_made.f a0 a1 r) : D Tryz.prog X (.callH 129 [.agg (TFacts.lit a0), .val (.int .u64 a1)] [] (.val (.int .u64 r)) []) := by
  unfold r03_made.f at h
  refine .enter 27 0 fn129 rfl rfl rfl <| .seq <| .room 0 <| .reg0 rfl (.op 0 rfl (bxP (s := 2) (cs := (TFacts.lit a0)) rfl ⟨rfl, by decide, rfl⟩ rfl) <| .op 0 rfl (asV rfl) <| .nil0) <| .seq <| .reg0 rfl (.op 0 rfl (faP fa29_0 rfl) <| .op 0 rfl (ldP rfl sz26 ag26 rfl) <| .op 0 rfl (asV rfl) <| .nil0) <| .seq <| .seq <| .reg0 rfl (.op 0 rfl (asV rfl) <| .nil0) <| .block <| .keepL [0] [(1, u6 a1), (2, .ptr 0 1 2 0 0), (5, u6 a0.Gen), (6, i6 0)] [⟨2, [(TFacts.lit a0)], 0, none⟩] (by decide) (by decide) ⟨.free rfl rfl, .ptr rfl, .free rfl rfl, .free rfl rfl, trivial⟩ ⟨⟨_, rfl, bcBox (all2_free rfl)⟩, trivial⟩ ?_
  obtain ⟨o1, hL1, h⟩ := h
  refine .loopB (r03_made.b1 a0 a1) (fun (x3, x4) => listEnv [(1, u6 a1), (2, .ptr 0 1 2 0 0), (5, u6 x3), (6, i6 x4)]) (fun (x3, x4) => [⟨2, [(TFacts.lit a0)], 0, none⟩]) (fun x7 => listEnv [(5, u6 x7)]) (fun x7 => []) hL1 (fun r_ => r = r_) ?_ ?_ ?_
  · rintro x7 rfl
    try dsimp only [Fin.on] at h
    refine .seq <| .reg0 rfl (.op 0 rfl (mvV rfl) <| .op 0 rfl (asV rfl) <| .nil0) ?_
    replace h := h.symm
    subst h
    refine .kf [(4, u6 x7)] rfl rfl ?_
    exact .ret rfl
  · rintro r_ rfl
    exact h
  · rintro ⟨x3, x4⟩ z1 h hn1 hx1 hr1
    dsimp only [r03_made.b1] at h
    refine .seq <| .seq <| .reg0 rfl (.op 0 rfl (mvV rfl) <| .op 0 rfl (faP fa29_1 rfl) <| .op 0 rfl (ldP rfl sz27 ag27 rfl) <| .op 0 rfl (lnR (l := a0.Rows) sl27 rfl) <| .op 0 rfl (ltI rfl rfl) <| .nil0) ?_
    by_cases c11 : x4 < (a0.Rows.length : Int)
    · rw [if_pos c11] at h
      refine .condT rfl (dt c11) <| .skip <| .seq <| .block <| .seq ?_
      obtain ⟨t24_2, g24_2, h⟩ := h
      refine .reg0 rfl (.m rfl <| .m rfl <| .c rfl go130 rfl rfl rfl (r01_Has.D g24_2) <| .nil0) ?_
      refine .consJ (fun s_ => r03_made.j1 x4 s_ z1) (fun x9 => listEnv [(1, u6 a1), (2, .ptr 0 1 2 0 0), (5, u6 x9), (6, i6 x4)]) (fun x9 => [⟨2, [(TFacts.lit a0)], 0, none⟩]) ?_ fun hJ1 => ?_
      · rintro x9 h
        unfold r03_made.j1 at h
        try dsimp only at h
        refine .inBlock <| .reg0 rfl (.op 0 rfl (mvV rfl) <| .op 0 rfl (addI rfl rfl) <| .op 0 rfl (asV rfl) <| .nil0) <| .keepL [0] [(1, u6 a1), (2, .ptr 0 1 2 0 0), (5, u6 x9), (6, i6 (IntKind.i64.wrap (x4 + 1)))] [⟨2, [(TFacts.lit a0)], 0, none⟩] (by decide) (by decide) ⟨.free rfl rfl, .ptr rfl, .free rfl rfl, .free rfl rfl, trivial⟩ ⟨⟨_, rfl, bcBox (all2_free rfl)⟩, trivial⟩ ?_
        exact hn1 _ h
      · by_cases c15 : t24_2 = true
        · rw [if_pos c15] at h
          refine .condT rfl c15 ?_
          obtain ⟨g27_4, h⟩ := h
          obtain ⟨t27_6, g27_6, h⟩ := h
          refine .reg0 rfl (.m rfl <| .o (faP fa29_1 rfl) <| .o (ldP rfl sz27 ag27 rfl) <| .m rfl <| .o (ixR (l := a0.Rows) (lit := (cInt .u64)) sl27 rfl rfl (fun _ => rfl) g27_4.1 g27_4.2) <| .o (ldC rfl sz26 ag26 rfl) <| .c rfl go127 rfl rfl rfl (r03_or.D g27_6) <| .a rfl <| .nil0) <| .keepL [0] [(1, u6 a1), (2, .ptr 0 1 2 0 0), (5, u6 t27_6), (6, i6 x4)] [⟨2, [(TFacts.lit a0)], 0, none⟩] (by decide) (by decide) ⟨.free rfl rfl, .ptr rfl, .free rfl rfl, .free rfl rfl, trivial⟩ ⟨⟨_, rfl, bcBox (all2_free rfl)⟩, trivial⟩ ?_
          exact hJ1 _ h
        · rw [if_neg c15] at h
          refine .condF rfl (nb c15) <| .skip <| .keepL [0] [(1, u6 a1), (2, .ptr 0 1 2 0 0), (5, u6 x3), (6, i6 x4)] [⟨2, [(TFacts.lit a0)], 0, none⟩] (by decide) (by decide) ⟨.free rfl rfl, .ptr rfl, .free rfl rfl, .free rfl rfl, trivial⟩ ⟨⟨_, rfl, bcBox (all2_free rfl)⟩, trivial⟩ ?_
          exact hJ1 _ h
    · rw [if_neg c11] at h
      refine .condF rfl (df c11) <| .exit rfl <| .keepL [] [(5, u6 x3)] [] (by decide) (by decide) ⟨.free rfl rfl, trivial⟩ trivial ?_
      exact hx1 _ h
def r03_Extend.b1 (a0 : Int) (a1 : TFacts) (a2 : TFacts) : ((List Int) × Int) → Rnd (((List Int) × Int)) ((List Int)) (TFacts × Int) → Prop := fun (x2, x3) z1 => if x3 < a0 then (((InR x3 a1.Rows.length)) ∧ ∃ t13_8 : Int, (r03_made.f a2 (rdl a1.Rows x3) t13_8) ∧ ((Fits (x2.length + 1) 8)) ∧ z1 = .next ((x2 ++ [t13_8]), (IntKind.i64.wrap (x3 + 1)))) else (z1 = .exit x2)
def r03_Extend.f (a0 : Int) (a1 : TFacts) (a2 : TFacts) (r : TFacts × Int) : Prop :=
  ∃ t2_3 : Int, (r03_two.f a0 a1 a2 t2_3) ∧ if t2_3 = 0 then (∃ t4_3 : Int, (r03_made.f a2 a1.Gen t4_3) ∧ ∃ o1 : Fin ((List Int)) (TFacts × Int), Loop (r03_Extend.b1 a0 a1 a2) ([], 0) o1 ∧ o1.on (fun x4 => ∃ t15_1 : TFacts, (r03_canon.f (TFacts.mk t4_3 x4) t15_1) ∧ r = (t15_1, 0)) (fun r_ => r = r_)) else (r = ((TFacts.mk 0 []), t2_3))
theorem r03_Extend.D {a0 a1 a2 r} (h : r03_Extend.f a0 a1 a2 r) : D Tryz.prog X (.callH 86 [.val (.int .i64 a0), .agg (TFacts.lit a1), .agg (TFacts.lit a2)] [] (.tuple [.agg (TFacts.lit r.1), .val (.int .i64 r.2)]) []) := by
  unfold r03_Extend.f at h
  refine .enter 43 0 fn86 rfl rfl rfl <| .seq <| .room 0 <| .room 0 <| .room 0 <| .reg0 rfl (.op 0 rfl (bxP (s := 2) (cs := (TFacts.lit a1)) rfl ⟨rfl, by decide, rfl⟩ rfl) <| .op 1 rfl (bxP (s := 2) (cs := (TFacts.lit a2)) rfl ⟨rfl, by decide, rfl⟩ rfl) <| .op 2 rfl (alP (s := 2) ze29 ⟨rfl, by decide, rfl⟩ rfl) <| .op 0 rfl (asV rfl) <| .nil0) <| .seq ?_
  obtain ⟨t2_3, g2_3, h⟩ := h
  refine .reg0 rfl (.m rfl <| .o (ldG rfl sz29 ag29 rfl) <| .o (ldG rfl sz29 ag29 rfl) <| .c rfl go126 rfl rfl rfl (r03_two.D g2_3) <| .a rfl <| .nil0) <| .seq <| .seq <| .reg0 rfl (.op 0 rfl (mvV rfl) <| .op 0 rfl (neI rfl rfl) <| .nil0) ?_
  by_cases c1 : t2_3 = 0
  · rw [if_pos c1] at h
    refine .condF rfl (nf c1) <| .skip <| .seq ?_
    obtain ⟨t4_3, g4_3, h⟩ := h
    refine .room 0 <| .reg0 rfl (.op 0 rfl (ldG rfl sz29 ag29 rfl) <| .op 0 rfl (faP fa29_0 rfl) <| .op 0 rfl (ldP rfl sz26 ag26 rfl) <| .callI rfl (callee_of rfl go129 rfl) (.pure rfl rfl (r03_made.D g4_3)) <| .op 0 rfl (bldS (cs := [u6 t4_3, nul]) ze29 pl29 rfl rfl) <| .op 3 rfl (alP (s := 2) ze29 ⟨rfl, by decide, rfl⟩ rfl) <| .op 0 rfl (stB (cs0 := [u6 0, nul]) (cs := [u6 t4_3, nul]) (cs1 := [u6 t4_3, nul]) rfl rfl sz29 rfl ⟨Nat.le_of_ble_eq_true rfl, rfl⟩ rfl) <| .nil0) ?_
    refine .seq <| .seq <| .reg0 rfl (.op 0 rfl (asV rfl) <| .nil0) <| .block <| .room 1 <| .keepL [0, 1, 2, 3, 4] [(0, i6 a0), (4, .ptr 0 1 2 0 0), (5, .ptr 1 1 2 0 0), (6, .ptr 2 1 2 0 0), (9, .ptr 3 1 2 0 0), (10, i6 0)] [⟨2, [(TFacts.lit a1)], 0, none⟩, ⟨2, [(TFacts.lit a2)], 0, none⟩, ⟨2, [[u6 0, nul]], 0, none⟩, ⟨2, [[u6 t4_3, .own 4 0]], 0, none⟩, ⟨1, [].map (cInt .u64), 0, none⟩] (by decide) (by decide) ⟨.free rfl rfl, .ptr rfl, .ptr rfl, .ptr rfl, .ptr rfl, .free rfl rfl, trivial⟩ ⟨⟨_, rfl, bcBox (all2_free rfl)⟩, ⟨_, rfl, bcBox (all2_free rfl)⟩, ⟨_, rfl, bcBox (all2_free rfl)⟩, ⟨_, rfl, bcBox (.cons (.free rfl rfl) <| .cons (.nilOwn) <| .nil)⟩, ⟨_, rfl, (bcRow (l := []) sl27 (Nat.le_refl _) rfl)⟩, trivial⟩ ?_
    obtain ⟨o1, hL1, h⟩ := h
    refine .loopB (r03_Extend.b1 a0 a1 a2) (fun (x2, x3) => listEnv [(0, i6 a0), (4, .ptr 0 1 2 0 0), (5, .ptr 1 1 2 0 0), (6, .ptr 2 1 2 0 0), (9, .ptr 3 1 2 0 0), (10, i6 x3)]) (fun (x2, x3) => [⟨2, [(TFacts.lit a1)], 0, none⟩, ⟨2, [(TFacts.lit a2)], 0, none⟩, ⟨2, [[u6 0, nul]], 0, none⟩, ⟨2, [[u6 t4_3, .own 4 x2.length]], 0, none⟩, ⟨1, x2.map (cInt .u64), 0, none⟩]) (fun x4 => listEnv [(6, .ptr 0 1 2 0 0), (9, .ptr 1 1 2 0 0)]) (fun x4 => [⟨2, [[u6 0, nul]], 0, none⟩, ⟨2, [[u6 t4_3, .own 2 x4.length]], 0, none⟩, ⟨1, x4.map (cInt .u64), 0, none⟩]) hL1 (fun r_ => r = r_) ?_ ?_ ?_
    · rintro x4 rfl
      try dsimp only [Fin.on] at h
      refine .seq ?_
      obtain ⟨t15_1, g15_1, h⟩ := h
      refine .reg0 rfl (.o (ldG rfl sz29 ag29 rfl) <| .callI rfl (callee_of rfl go113 rfl) (.lendC (args' := [.agg [u6 t4_3, .rows (x4.map (cInt .u64))]])  [2] true (.cons (cAgg (.cons (.free rfl rfl) <| .cons (cFixO (l := x4) sl27 rfl rfl rfl rfl) <| .nil)) <| .nil) (by decide) rfl rfl rfl rfl (r03_canon.D g15_1)) <| .o (stB (cs0 := [u6 0, nul]) (cs := (TFacts.lit t15_1)) (cs1 := (TFacts.lit t15_1)) rfl rfl sz29 rfl ⟨Nat.le_of_ble_eq_true rfl, rfl⟩ rfl) <| .a rfl <| .nil0) ?_
      replace h := h.symm
      subst h
      refine .k [(6, .cptr (TFacts.lit t15_1) 0), (7, i6 0)] ⟨cFixP rfl rfl (.cons (.free rfl rfl) <| .cons (.free rfl rfl) <| .nil), .free rfl rfl, trivial⟩ ?_
      exact .ret rfl
    · rintro r_ rfl
      exact h
    · rintro ⟨x2, x3⟩ z1 h hn1 hx1 hr1
      dsimp only [r03_Extend.b1] at h
      refine .seq <| .seq <| .reg0 rfl (.op 0 rfl (mvV rfl) <| .op 0 rfl (mvV rfl) <| .op 0 rfl (ltI rfl rfl) <| .nil0) ?_
      by_cases c4 : x3 < a0
      · rw [if_pos c4] at h
        refine .condT rfl (dt c4) <| .skip <| .seq <| .block ?_
        obtain ⟨g13_6, h⟩ := h
        obtain ⟨t13_8, g13_8, h⟩ := h
        obtain ⟨g13_10, h⟩ := h
        refine .room 0 <| .room 0 ?_
        refine .reg1 (e1 := listEnv [(0, i6 a0), (4, .ptr 0 1 2 0 0), (5, .ptr 1 1 2 0 0), (6, .ptr 2 1 2 0 0), (9, .ptr 3 1 2 0 0), (10, i6 x3)]) (H1 := [⟨2, [(TFacts.lit a1)], 0, none⟩, ⟨2, [(TFacts.lit a2)], 0, none⟩, ⟨2, [[u6 0, nul]], 0, none⟩, ⟨2, [[u6 t4_3, .own 4 ((x2 ++ [t13_8]).length)]], 0, none⟩, ⟨1, (x2 ++ [t13_8]).map (cInt .u64), 0, none⟩, ⟨1, [t13_8].map (cInt .u64), 0, none⟩, Blk.hole]) rfl ?_ ?_
        · exact .drawM [(11, 40, .ptr 3 1 2 0 1), (10, 39, .own 4 ((x2 ++ [t13_8]).length)), (9, 38, .own 5 ([t13_8].length)), (8, 37, u6 t13_8), (7, 36, u6 (rdl a1.Rows x3)), (6, 35, .cptr ((cInt .u64) (rdl a1.Rows x3)) 0), (5, 34, i6 x3), (4, 33, .rows (a1.Rows.map (cInt .u64))), (3, 32, .ptr 0 1 2 0 1), (2, 31, .agg (TFacts.lit a2)), (1, 30, .own 4 x2.length), (0, 29, .ptr 3 1 2 0 1)] [(12, 3, ⟨2, [[u6 t4_3, .own 4 ((x2 ++ [t13_8]).length)]], 0, none⟩), (10, 4, ⟨1, (x2 ++ [t13_8]).map (cInt .u64), 0, none⟩), (9, 5, ⟨1, [t13_8].map (cInt .u64), 0, none⟩)] [[], [0], [], [], [3], [], [4, 3, 5], [6, 4, 3, 5], [2, 7, 6, 4, 3, 5], [8, 2, 7, 6, 4, 3, 5], [1, 0, 9, 8, 2, 7, 6, 4, 3, 5], [0, 1, 2, 3, 4, 5, 6, 7, 8, 9, 10], [11, 0, 1, 2, 3, 4, 5, 6, 7, 8, 9, 10]] (by rfl) (by rfl) (by rfl) (by exact ⟨oP (fun _ => faP fa29_1 rfl) rfl, oP (fun _ => ldP rfl sz27 ag27 rfl) rfl, oP (fun _ => ldG rfl sz29 ag29 rfl) rfl, oP (fun _ => faP fa29_1 rfl) rfl, oP (fun _ => ldP rfl sz27 ag27 rfl) rfl, oP (fun _ => mvV rfl) rfl, oP (fun _ => ixR (l := a1.Rows) (lit := (cInt .u64)) sl27 rfl rfl (fun _ => rfl) g13_6.1 g13_6.2) rfl, oP (fun _ => ldC rfl sz26 ag26 rfl) rfl, fun S hS hD hn => .oneI hS hD hn rfl rfl (callee_of rfl go129 rfl) (.pure rfl rfl (r03_made.D g13_8)) rfl rfl rfl, oW 5 (fun _ => bldL (s := 1) (cs := [u6 t13_8]) un27 sz26 ze26 ⟨by decide, rfl, by decide⟩ rfl rfl rfl rfl) rfl fun _ => rfl, oW 0 (fun _ => ap1 (l := x2) t13_8 sl27 rfl rfl rfl (Nat.zero_le _) (elems_own (l := [t13_8]) rfl rfl) g13_10) rfl fun _ => rfl, oP (fun _ => faP fa29_1 rfl) rfl, fun S hS hD hn => .one0 0 rfl rfl (stB (cs0 := [u6 t4_3, .own 4 x2.length]) (cs := [.own 4 ((x2 ++ [t13_8]).length)]) (cs1 := [u6 t4_3, .own 4 ((x2 ++ [t13_8]).length)]) rfl rfl sz27 rfl ⟨Nat.le_of_ble_eq_true rfl, rfl⟩ rfl) (drawE_other _ _ _ _ rfl) rfl, trivial⟩) _ (by exact ⟨.free rfl rfl, .ptr rfl, .ptr rfl, .ptr rfl, .ptr rfl, .free rfl rfl, trivial⟩) (by rfl)
        refine .inBlock <| .reg0 rfl (.op 0 rfl (mvV rfl) <| .op 0 rfl (addI rfl rfl) <| .op 0 rfl (asV rfl) <| .nil0) <| .keepL [0, 1, 2, 3, 4] [(0, i6 a0), (4, .ptr 0 1 2 0 0), (5, .ptr 1 1 2 0 0), (6, .ptr 2 1 2 0 0), (9, .ptr 3 1 2 0 0), (10, i6 (IntKind.i64.wrap (x3 + 1)))] [⟨2, [(TFacts.lit a1)], 0, none⟩, ⟨2, [(TFacts.lit a2)], 0, none⟩, ⟨2, [[u6 0, nul]], 0, none⟩, ⟨2, [[u6 t4_3, .own 4 ((x2 ++ [t13_8]).length)]], 0, none⟩, ⟨1, (x2 ++ [t13_8]).map (cInt .u64), 0, none⟩] (by decide) (by decide) ⟨.free rfl rfl, .ptr rfl, .ptr rfl, .ptr rfl, .ptr rfl, .free rfl rfl, trivial⟩ ⟨⟨_, rfl, bcBox (all2_free rfl)⟩, ⟨_, rfl, bcBox (all2_free rfl)⟩, ⟨_, rfl, bcBox (all2_free rfl)⟩, ⟨_, rfl, bcBox (.cons (.free rfl rfl) <| .cons (.own rfl) <| .nil)⟩, ⟨_, rfl, bcRow (l := (x2 ++ [t13_8])) sl27 (Nat.le_refl _) rfl⟩, trivial⟩ ?_
        exact hn1 _ h
      · rw [if_neg c4] at h
        refine .condF rfl (df c4) <| .exit rfl <| .keepL [2, 3, 4] [(6, .ptr 0 1 2 0 0), (9, .ptr 1 1 2 0 0)] [⟨2, [[u6 0, nul]], 0, none⟩, ⟨2, [[u6 t4_3, .own 2 x2.length]], 0, none⟩, ⟨1, x2.map (cInt .u64), 0, none⟩] (by decide) (by decide) ⟨.ptr rfl, .ptr rfl, trivial⟩ ⟨⟨_, rfl, bcBox (all2_free rfl)⟩, ⟨_, rfl, bcBox (.cons (.free rfl rfl) <| .cons (.own rfl) <| .nil)⟩, ⟨_, rfl, bcRow (l := x2) sl27 (Nat.le_refl _) rfl⟩, trivial⟩ ?_
        exact hx1 _ h
  · rw [if_neg c1] at h
    refine .condT rfl (nt c1) <| .seq <| .reg0 rfl (.op 0 rfl (bldS (cs := [u6 0, nul]) ze29 pl29 rfl rfl) <| .op 0 rfl (mvV rfl) <| .op 0 rfl (stB (cs0 := [u6 0, nul]) (cs := [u6 0, nul]) (cs1 := [u6 0, nul]) rfl rfl sz29 rfl ⟨Nat.le_of_ble_eq_true rfl, rfl⟩ rfl) <| .op 0 rfl (asV rfl) <| .nil0) ?_
    replace h := h.symm
    subst h
    refine .k [(6, .cptr [u6 0, .rows (([] : List Int).map (cInt .u64))] 0), (7, i6 t2_3)] ⟨cFixP rfl rfl (.cons (.free rfl rfl) <| .cons (.nil) <| .nil), .free rfl rfl, trivial⟩ ?_
    exact .ret rfl
def r05_behind.j1 (x10 : Int) : (Int × Int × Int) → (Rnd ((Int × Int × Int × Int)) ((Int × Int × Int)) TCell) → Prop := fun (x23, x24, x25) z1 => z1 = .next (x23, x24, x25, (IntKind.i64.wrap (x10 + 1)))
def r05_behind.b1 (a0 : List TCell) (a1 : TCell) : (Int × Int × Int × Int) → Rnd ((Int × Int × Int × Int)) ((Int × Int × Int)) TCell → Prop := fun (x7, x8, x9, x10) z1 => if x10 < (a0.length : Int) then (∃ t24_3 : Bool, (r01_Has.f a1.From x10 t24_3) ∧ if t24_3 = true then (((InR x10 a0.length)) ∧ ∃ t27_5 : TCell, (r05_Joined.f (TCell.mk x7 x8 x9) (rdl a0 x10) t27_5) ∧ r05_behind.j1 x10 (t27_5.From, t27_5.Kind, t27_5.K) z1) else (r05_behind.j1 x10 (x7, x8, x9) z1)) else (z1 = .exit (x7, x8, x9))
def r05_behind.f (a0 : List TCell) (a1 : TCell) (r : TCell) : Prop :=
  ∃ o1 : Fin ((Int × Int × Int)) TCell, Loop (r05_behind.b1 a0 a1) (0, a1.Kind, a1.K, 0) o1 ∧ o1.on (fun (x17, x18, x19) => r = (TCell.mk x17 x18 x19)) (fun r_ => r = r_)
theorem r05_behind.D {a0 a1 r} (h : r05_behind.f a0 a1 r) : D Tryz.prog X (.callH 87 [.rows (a0.map TCell.cells), .agg (TCell.lit a1)] [] (.agg (TCell.lit r)) []) := by
  unfold r05_behind.f at h
  refine .enter 29 0 fn87 rfl rfl rfl <| .seq <| .room 0 <| .room 0 <| .reg0 rfl (.op 0 rfl (bxP (s := 3) (cs := (TCell.lit a1)) rfl ⟨rfl, by decide, rfl⟩ rfl) <| .op 1 rfl (alP (s := 3) ze74 ⟨rfl, by decide, rfl⟩ rfl) <| .nil0) <| .seq <| .room 0 <| .reg0 rfl (.op 0 rfl (faP fa74_1 rfl) <| .op 0 rfl (ldP rfl sz72 ag72 rfl) <| .op 0 rfl (faP fa74_2 rfl) <| .op 0 rfl (ldP rfl sz2 ag2 rfl) <| .op 0 rfl (bldS (cs := [u6 0, i6 a1.Kind, i6 a1.K]) ze74 pl74 rfl rfl) <| .op 2 rfl (alP (s := 3) ze74 ⟨rfl, by decide, rfl⟩ rfl) <| .op 0 rfl (stB (cs0 := GH_c3) (cs := [u6 0, i6 a1.Kind, i6 a1.K]) (cs1 := [u6 0, i6 a1.Kind, i6 a1.K]) rfl rfl sz74 rfl ⟨Nat.le_of_ble_eq_true rfl, rfl⟩ rfl) <| .nil0) ?_
  refine .seq <| .seq <| .reg0 rfl (.op 0 rfl (asV rfl) <| .nil0) <| .block <| .keepL [0, 1, 2] [(0, .rows (a0.map TCell.cells)), (3, .ptr 0 1 3 0 0), (4, .ptr 1 1 3 0 0), (5, .ptr 2 1 3 0 0), (6, i6 0)] [⟨3, [(TCell.lit a1)], 0, none⟩, ⟨3, [GH_c3], 0, none⟩, ⟨3, [[u6 0, i6 a1.Kind, i6 a1.K]], 0, none⟩] (by decide) (by decide) ⟨.free rfl rfl, .ptr rfl, .ptr rfl, .ptr rfl, .free rfl rfl, trivial⟩ ⟨⟨_, rfl, bcBox (all2_free rfl)⟩, ⟨_, rfl, bcBox (all2_free rfl)⟩, ⟨_, rfl, bcBox (all2_free rfl)⟩, trivial⟩ ?_
  obtain ⟨o1, hL1, h⟩ := h
  refine .loopB (r05_behind.b1 a0 a1) (fun (x7, x8, x9, x10) => listEnv [(0, .rows (a0.map TCell.cells)), (3, .ptr 0 1 3 0 0), (4, .ptr 1 1 3 0 0), (5, .ptr 2 1 3 0 0), (6, i6 x10)]) (fun (x7, x8, x9, x10) => [⟨3, [(TCell.lit a1)], 0, none⟩, ⟨3, [GH_c3], 0, none⟩, ⟨3, [[u6 x7, i6 x8, i6 x9]], 0, none⟩]) (fun (x17, x18, x19) => listEnv [(4, .ptr 0 1 3 0 0), (5, .ptr 1 1 3 0 0)]) (fun (x17, x18, x19) => [⟨3, [GH_c3], 0, none⟩, ⟨3, [[u6 x17, i6 x18, i6 x19]], 0, none⟩]) hL1 (fun r_ => r = r_) ?_ ?_ ?_
  · rintro ⟨x17, x18, x19⟩ rfl
    try dsimp only [Fin.on] at h
    refine .seq <| .reg0 rfl (.op 0 rfl (ldG rfl sz74 ag74 rfl) <| .op 0 rfl (stB (cs0 := GH_c3) (cs := [u6 x17, i6 x18, i6 x19]) (cs1 := [u6 x17, i6 x18, i6 x19]) rfl rfl sz74 rfl ⟨Nat.le_of_ble_eq_true rfl, rfl⟩ rfl) <| .nil0) ?_
    replace h := h.symm
    subst h
    refine .k [(4, .cptr [u6 x17, i6 x18, i6 x19] 0)] ⟨cFixP rfl rfl (.cons (.free rfl rfl) <| .cons (.free rfl rfl) <| .cons (.free rfl rfl) <| .nil), trivial⟩ ?_
    exact .ret rfl
  · rintro r_ rfl
    exact h
  · rintro ⟨x7, x8, x9, x10⟩ z1 h hn1 hx1 hr1
    dsimp only [r05_behind.b1] at h
    refine .seq <| .seq <| .reg0 rfl (.op 0 rfl (mvV rfl) <| .op 0 rfl (mvR rfl) <| .op 0 rfl (lnR (l := a0) sl30 rfl) <| .op 0 rfl (ltI rfl rfl) <| .nil0) ?_
    by_cases c11 : x10 < (a0.length : Int)
    · rw [if_pos c11] at h
      refine .condT rfl (dt c11) <| .skip <| .seq <| .block <| .seq ?_
      obtain ⟨t24_3, g24_3, h⟩ := h
      refine .reg0 rfl (.o (faP fa74_0 rfl) <| .o (ldP rfl sz26 ag26 rfl) <| .m rfl <| .c rfl go130 rfl rfl rfl (r01_Has.D g24_3) <| .nil0) ?_
      refine .consJ (fun s_ => r05_behind.j1 x10 s_ z1) (fun (x23, x24, x25) => listEnv [(0, .rows (a0.map TCell.cells)), (3, .ptr 0 1 3 0 0), (4, .ptr 1 1 3 0 0), (5, .ptr 2 1 3 0 0), (6, i6 x10)]) (fun (x23, x24, x25) => [⟨3, [(TCell.lit a1)], 0, none⟩, ⟨3, [GH_c3], 0, none⟩, ⟨3, [[u6 x23, i6 x24, i6 x25]], 0, none⟩]) ?_ fun hJ1 => ?_
      · rintro ⟨x23, x24, x25⟩ h
        unfold r05_behind.j1 at h
        try dsimp only at h
        refine .inBlock <| .reg0 rfl (.op 0 rfl (mvV rfl) <| .op 0 rfl (addI rfl rfl) <| .op 0 rfl (asV rfl) <| .nil0) <| .keepL [0, 1, 2] [(0, .rows (a0.map TCell.cells)), (3, .ptr 0 1 3 0 0), (4, .ptr 1 1 3 0 0), (5, .ptr 2 1 3 0 0), (6, i6 (IntKind.i64.wrap (x10 + 1)))] [⟨3, [(TCell.lit a1)], 0, none⟩, ⟨3, [GH_c3], 0, none⟩, ⟨3, [[u6 x23, i6 x24, i6 x25]], 0, none⟩] (by decide) (by decide) ⟨.free rfl rfl, .ptr rfl, .ptr rfl, .ptr rfl, .free rfl rfl, trivial⟩ ⟨⟨_, rfl, bcBox (all2_free rfl)⟩, ⟨_, rfl, bcBox (all2_free rfl)⟩, ⟨_, rfl, bcBox (all2_free rfl)⟩, trivial⟩ ?_
        exact hn1 _ h
      · by_cases c15 : t24_3 = true
        · rw [if_pos c15] at h
          refine .condT rfl c15 ?_
          obtain ⟨g27_3, h⟩ := h
          obtain ⟨t27_5, g27_5, h⟩ := h
          refine .reg1 (e1 := listEnv [(0, .rows (a0.map TCell.cells)), (3, .ptr 0 1 3 0 0), (4, .ptr 1 1 3 0 0), (5, .ptr 2 1 3 0 0), (6, i6 x10)]) (H1 := [⟨3, [(TCell.lit a1)], 0, none⟩, ⟨3, [GH_c3], 0, none⟩, ⟨3, [(TCell.lit t27_5)], 0, none⟩]) rfl ?_ ?_
          · exact .drawM [(5, 27, .agg (TCell.lit t27_5)), (4, 26, .agg (TCell.lit (rdl a0 x10))), (3, 25, .cptr (TCell.lit (rdl a0 x10)) 0), (2, 24, i6 x10), (1, 23, .rows (a0.map TCell.cells)), (0, 22, .agg [u6 x7, i6 x8, i6 x9])] [(6, 2, ⟨3, [(TCell.lit t27_5)], 0, none⟩)] [[], [], [], [1, 2], [3, 1, 2], [0, 4, 3, 1, 2], [5, 0, 4, 3, 1, 2]] (by rfl) (by rfl) (by rfl) (by exact ⟨oP (fun _ => ldG rfl sz74 ag74 rfl) rfl, oP (fun _ => mvR rfl) rfl, oP (fun _ => mvV rfl) rfl, oP (fun _ => ixR (l := a0) (lit := TCell.lit) sl30 rfl rfl (fun _ => rfl) g27_3.1 g27_3.2) rfl, oP (fun _ => ldCG rfl sz74 ag74 rfl) rfl, fun S hS hD hn => .oneI hS hD hn rfl rfl (callee_of rfl go80 rfl) (.pure rfl rfl (r05_Joined.D g27_5)) rfl rfl rfl, fun S hS hD hn => .one0 0 rfl rfl (stB (cs0 := [u6 x7, i6 x8, i6 x9]) (cs := (TCell.lit t27_5)) (cs1 := (TCell.lit t27_5)) rfl rfl sz74 rfl ⟨Nat.le_of_ble_eq_true rfl, rfl⟩ rfl) (drawE_other _ _ _ _ rfl) rfl, trivial⟩) _ (by exact ⟨.free rfl rfl, .ptr rfl, .ptr rfl, .ptr rfl, .free rfl rfl, trivial⟩) (by rfl)
          refine .keepL [0, 1, 2] [(0, .rows (a0.map TCell.cells)), (3, .ptr 0 1 3 0 0), (4, .ptr 1 1 3 0 0), (5, .ptr 2 1 3 0 0), (6, i6 x10)] [⟨3, [(TCell.lit a1)], 0, none⟩, ⟨3, [GH_c3], 0, none⟩, ⟨3, [(TCell.lit t27_5)], 0, none⟩] (by decide) (by decide) ⟨.free rfl rfl, .ptr rfl, .ptr rfl, .ptr rfl, .free rfl rfl, trivial⟩ ⟨⟨_, rfl, bcBox (all2_free rfl)⟩, ⟨_, rfl, bcBox (all2_free rfl)⟩, ⟨_, rfl, bcBox (all2_free rfl)⟩, trivial⟩ ?_
          exact hJ1 _ h
        · rw [if_neg c15] at h
          refine .condF rfl (nb c15) <| .skip <| .keepL [0, 1, 2] [(0, .rows (a0.map TCell.cells)), (3, .ptr 0 1 3 0 0), (4, .ptr 1 1 3 0 0), (5, .ptr 2 1 3 0 0), (6, i6 x10)] [⟨3, [(TCell.lit a1)], 0, none⟩, ⟨3, [GH_c3], 0, none⟩, ⟨3, [[u6 x7, i6 x8, i6 x9]], 0, none⟩] (by decide) (by decide) ⟨.free rfl rfl, .ptr rfl, .ptr rfl, .ptr rfl, .free rfl rfl, trivial⟩ ⟨⟨_, rfl, bcBox (all2_free rfl)⟩, ⟨_, rfl, bcBox (all2_free rfl)⟩, ⟨_, rfl, bcBox (all2_free rfl)⟩, trivial⟩ ?_
          exact hJ1 _ h
    · rw [if_neg c11] at h
      refine .condF rfl (df c11) <| .exit rfl <| .keepL [1, 2] [(4, .ptr 0 1 3 0 0), (5, .ptr 1 1 3 0 0)] [⟨3, [GH_c3], 0, none⟩, ⟨3, [[u6 x7, i6 x8, i6 x9]], 0, none⟩] (by decide) (by decide) ⟨.ptr rfl, .ptr rfl, trivial⟩ ⟨⟨_, rfl, bcBox (all2_free rfl)⟩, ⟨_, rfl, bcBox (all2_free rfl)⟩, trivial⟩ ?_
      exact hx1 _ h
end Go.RM.Tryz
