/- GG, for the statement WeightMakes: what it needs, no more. -/
import Derived.Test.YthjbpjpcddegfaaGreatDoorZWeightMakesGF
set_option linter.unusedVariables false
set_option maxRecDepth 8000
set_option maxHeartbeats 4000000
namespace Go.RM.Tryz
open Go.RM Go.Proofs
def r05_Either.b1 (a0 : TSpace) (a1 : TWeight) (a2 : TWeight) : ((List TCell) × Int) → Rnd (((List TCell) × Int)) ((List TCell)) TWeight → Prop := fun (x2, x3) z1 => if x3 < a0.Dim then (((InR x3 a1.Cells.length)) ∧ ((InR x3 a2.Cells.length)) ∧ ∃ t23_12 : TCell, (r05_Joined.f (rdl a1.Cells x3) (rdl a2.Cells x3) t23_12) ∧ ((Fits (x2.length + 1) 24)) ∧ z1 = .next ((x2 ++ [t23_12]), (IntKind.i64.wrap (x3 + 1)))) else (z1 = .exit x2)
def r05_Either.step (self48 : TSpace → TWeight → TWeight → TWeight → Prop) (a0 : TSpace) (a1 : TWeight) (a2 : TWeight) (r : TWeight) : Prop :=
  if a1.Zero = true then (r = a2) else (if a2.Zero = true then (r = a1) else (if a0.Tag = 2 then (r = (TWeight.mk false (if a2.Cost < a1.Cost then a2.Cost else a1.Cost) (TFacts.mk 0 []) [] [])) else (if a0.Tag = 3 then (∃ t12_6 : TFacts × Int, (r03_Combine.f a0.Dim a1.Facts a2.Facts t12_6) ∧ r = (TWeight.mk false 0 t12_6.1 [] [])) else (if a0.Tag = 4 then (∃ o1 : Fin ((List TCell)) TWeight, Loop (r05_Either.b1 a0 a1 a2) ([], 0) o1 ∧ o1.on (fun x4 => r = (TWeight.mk false 0 (TFacts.mk 0 []) x4 [])) (fun r_ => r = r_)) else (if a0.Tag = 5 then (((InR 0 a0.Parts.length)) ∧ ((InR 0 a1.Parts.length)) ∧ ((InR 0 a2.Parts.length)) ∧ ∃ t27_12 : TWeight, (self48 (rdl a0.Parts 0) (rdl a1.Parts 0) (rdl a2.Parts 0) t27_12) ∧ ((InR 1 a0.Parts.length)) ∧ ((InR 1 a1.Parts.length)) ∧ ((InR 1 a2.Parts.length)) ∧ ∃ t27_25 : TWeight, (self48 (rdl a0.Parts 1) (rdl a1.Parts 1) (rdl a2.Parts 1) t27_25) ∧ r = (TWeight.mk false 0 (TFacts.mk 0 []) [] [t27_12, t27_25])) else (r = (TWeight.mk false 0 (TFacts.mk 0 []) [] [])))))))
abbrev GG_c0 : List PV := [bo false, i6 0, u6 0, nul, nul, nul]
abbrev GG_c1 : List PV := [bo false, i6 0, u6 0, .rows (([] : List Int).map (cInt .u64)), .rows (([] : List TCell).map TCell.cells), .rows (([] : List TWeight).map TWeight.cells)]
theorem r05_Either.stepD {self48 : TSpace → TWeight → TWeight → TWeight → Prop} {a0 : TSpace} {a1 : TWeight} {a2 : TWeight} (hs48 : ∀ z0_ z1_ z2_ r_, self48 z0_ z1_ z2_ r_ → D Tryz.prog X (.callH 48 [.agg (TSpace.lit z0_), .agg (TWeight.lit z1_), .agg (TWeight.lit z2_)] [] (.agg (TWeight.lit r_)) [])) {r : TWeight} (h : r05_Either.step self48 a0 a1 a2 r) : D Tryz.prog X (.callH 48 [.agg (TSpace.lit a0), .agg (TWeight.lit a1), .agg (TWeight.lit a2)] [] (.agg (TWeight.lit r)) []) := by
  unfold r05_Either.step at h
  refine .enter 94 0 fn48 rfl rfl rfl <| .seq <| .room 0 <| .room 0 <| .room 0 <| .room 0 <| .reg0 rfl (.op 0 rfl (bxP (s := 3) (cs := (TSpace.lit a0)) rfl ⟨rfl, by decide, rfl⟩ rfl) <| .op 1 rfl (bxP (s := 6) (cs := (TWeight.lit a1)) rfl ⟨rfl, by decide, rfl⟩ rfl) <| .op 2 rfl (bxP (s := 6) (cs := (TWeight.lit a2)) rfl ⟨rfl, by decide, rfl⟩ rfl) <| .op 3 rfl (alP (s := 6) ze33 ⟨rfl, by decide, rfl⟩ rfl) <| .nil0) ?_
  refine .seq <| .seq <| .reg0 rfl (.op 0 rfl (faP fa33_0 rfl) <| .op 0 rfl (ldP rfl sz4 ag4 rfl) <| .nil0) ?_
  by_cases c1 : a1.Zero = true
  · rw [if_pos c1] at h
    refine .condT rfl c1 <| .seq <| .reg0 rfl (.op 0 rfl (ldG rfl sz33 ag33 rfl) <| .op 0 rfl (stB (cs0 := GG_c0) (cs := (TWeight.lit a2)) (cs1 := (TWeight.lit a2)) rfl rfl sz33 rfl ⟨Nat.le_of_ble_eq_true rfl, rfl⟩ rfl) <| .nil0) ?_
    replace h := h.symm
    subst h
    refine .k [(6, .cptr (TWeight.lit a2) 0)] ⟨cFixP rfl rfl (.cons (.free rfl rfl) <| .cons (.free rfl rfl) <| .cons (.free rfl rfl) <| .cons (.free rfl rfl) <| .cons (.free rfl rfl) <| .cons (.free rfl rfl) <| .nil), trivial⟩ ?_
    exact .ret rfl
  · rw [if_neg c1] at h
    refine .condF rfl (nb c1) <| .skip <| .seq <| .seq <| .reg0 rfl (.op 0 rfl (faP fa33_0 rfl) <| .op 0 rfl (ldP rfl sz4 ag4 rfl) <| .nil0) ?_
    by_cases c2 : a2.Zero = true
    · rw [if_pos c2] at h
      refine .condT rfl c2 <| .seq <| .reg0 rfl (.op 0 rfl (ldG rfl sz33 ag33 rfl) <| .op 0 rfl (stB (cs0 := GG_c0) (cs := (TWeight.lit a1)) (cs1 := (TWeight.lit a1)) rfl rfl sz33 rfl ⟨Nat.le_of_ble_eq_true rfl, rfl⟩ rfl) <| .nil0) ?_
      replace h := h.symm
      subst h
      refine .k [(6, .cptr (TWeight.lit a1) 0)] ⟨cFixP rfl rfl (.cons (.free rfl rfl) <| .cons (.free rfl rfl) <| .cons (.free rfl rfl) <| .cons (.free rfl rfl) <| .cons (.free rfl rfl) <| .cons (.free rfl rfl) <| .nil), trivial⟩ ?_
      exact .ret rfl
    · rw [if_neg c2] at h
      refine .condF rfl (nb c2) <| .skip <| .seq <| .room 0 <| .reg0 rfl (.op 0 rfl (bldS (cs := GG_c0) ze33 pl33 rfl rfl) <| .op 4 rfl (alP (s := 6) ze33 ⟨rfl, by decide, rfl⟩ rfl) <| .op 0 rfl (stB (cs0 := GG_c0) (cs := GG_c0) (cs1 := GG_c0) rfl rfl sz33 rfl ⟨Nat.le_of_ble_eq_true rfl, rfl⟩ rfl) <| .nil0) <| .seq <| .seq <| .reg0 rfl (.op 0 rfl (faP fa25_0 rfl) <| .op 0 rfl (ldP rfl sz22 ag22 rfl) <| .nil0) ?_
      refine .block <| .seq <| .reg0 rfl (.op 0 rfl (eqI rfl rfl) <| .op 0 rfl (asV rfl) <| .nil0) ?_
      by_cases c3 : a0.Tag = 2
      · rw [if_pos c3] at h
        refine .condT rfl (bt c3) <| .reg0 rfl (.o (faP fa33_1 rfl) <| .o (ldP rfl sz3 ag3 rfl) <| .o (faP fa33_1 rfl) <| .o (ldP rfl sz3 ag3 rfl) <| .o (minI rfl rfl) <| .o (faP fa33_1 rfl) <| .o (stB (cs0 := GG_c0) (cs := [i6 (if a2.Cost < a1.Cost then a2.Cost else a1.Cost)]) (cs1 := [bo false, i6 (if a2.Cost < a1.Cost then a2.Cost else a1.Cost), u6 0, nul, nul, nul]) rfl rfl sz3 rfl ⟨Nat.le_of_ble_eq_true rfl, rfl⟩ rfl) <| .nil0) ?_
        refine .inBlock <| .seq <| .reg0 rfl (.op 0 rfl (ldG rfl sz33 ag33 rfl) <| .op 0 rfl (stB (cs0 := GG_c0) (cs := [bo false, i6 (if a2.Cost < a1.Cost then a2.Cost else a1.Cost), u6 0, nul, nul, nul]) (cs1 := [bo false, i6 (if a2.Cost < a1.Cost then a2.Cost else a1.Cost), u6 0, nul, nul, nul]) rfl rfl sz33 rfl ⟨Nat.le_of_ble_eq_true rfl, rfl⟩ rfl) <| .nil0) ?_
        replace h := h.symm
        subst h
        refine .k [(6, .cptr [bo false, i6 (if a2.Cost < a1.Cost then a2.Cost else a1.Cost), u6 0, .rows (([] : List Int).map (cInt .u64)), .rows (([] : List TCell).map TCell.cells), .rows (([] : List TWeight).map TWeight.cells)] 0)] ⟨cFixP rfl rfl (.cons (.free rfl rfl) <| .cons (.free rfl rfl) <| .cons (.free rfl rfl) <| .cons (.nil) <| .cons (.nil) <| .cons (.nil) <| .nil), trivial⟩ ?_
        exact .ret rfl
      · rw [if_neg c3] at h
        refine .condF rfl (bn c3) <| .seq <| .reg0 rfl (.op 0 rfl (eqI rfl rfl) <| .op 0 rfl (asV rfl) <| .nil0) ?_
        by_cases c4 : a0.Tag = 3
        · rw [if_pos c4] at h
          refine .condT rfl (bt c4) ?_
          obtain ⟨t12_6, g12_6, h⟩ := h
          refine .reg0 rfl (.o (faP fa25_1 rfl) <| .o (ldP rfl sz3 ag3 rfl) <| .o (faP fa33_2 rfl) <| .o (ldG rfl sz29 ag29 rfl) <| .o (faP fa33_2 rfl) <| .o (ldG rfl sz29 ag29 rfl) <| .c rfl go79 rfl rfl rfl (r03_Combine.D g12_6) <| .o (mvT rfl) <| .o (exT rfl rfl) <| .o (exT rfl rfl) <| .o (faP fa33_2 rfl) <| .o (stB (cs0 := GG_c0) (cs := (TFacts.lit t12_6.1)) (cs1 := [bo false, i6 0, u6 t12_6.1.Gen, .rows (t12_6.1.Rows.map (cInt .u64)), nul, nul]) rfl rfl sz29 rfl ⟨Nat.le_of_ble_eq_true rfl, rfl⟩ rfl) <| .nil0) ?_
          refine .inBlock <| .seq <| .reg0 rfl (.op 0 rfl (ldG rfl sz33 ag33 rfl) <| .op 0 rfl (stB (cs0 := GG_c0) (cs := [bo false, i6 0, u6 t12_6.1.Gen, .rows (t12_6.1.Rows.map (cInt .u64)), nul, nul]) (cs1 := [bo false, i6 0, u6 t12_6.1.Gen, .rows (t12_6.1.Rows.map (cInt .u64)), nul, nul]) rfl rfl sz33 rfl ⟨Nat.le_of_ble_eq_true rfl, rfl⟩ rfl) <| .nil0) ?_
          replace h := h.symm
          subst h
          refine .k [(6, .cptr [bo false, i6 0, u6 t12_6.1.Gen, .rows (t12_6.1.Rows.map (cInt .u64)), .rows (([] : List TCell).map TCell.cells), .rows (([] : List TWeight).map TWeight.cells)] 0)] ⟨cFixP rfl rfl (.cons (.free rfl rfl) <| .cons (.free rfl rfl) <| .cons (.free rfl rfl) <| .cons (.free rfl rfl) <| .cons (.nil) <| .cons (.nil) <| .nil), trivial⟩ ?_
          exact .ret rfl
        · rw [if_neg c4] at h
          refine .condF rfl (bn c4) <| .seq <| .reg0 rfl (.op 0 rfl (eqI rfl rfl) <| .op 0 rfl (asV rfl) <| .nil0) ?_
          by_cases c5 : a0.Tag = 4
          · rw [if_pos c5] at h
            refine .condT rfl (bt c5) <| .seq <| .reg0 rfl (.op 0 rfl (asV rfl) <| .nil0) <| .block <| .room 3 <| .keepL [0, 1, 2, 3, 4, 5] [(3, .ptr 0 1 3 0 0), (4, .ptr 1 1 6 0 0), (5, .ptr 2 1 6 0 0), (6, .ptr 3 1 6 0 0), (7, .ptr 4 1 6 0 0), (8, i6 0)] [⟨3, [(TSpace.lit a0)], 0, none⟩, ⟨6, [(TWeight.lit a1)], 0, none⟩, ⟨6, [(TWeight.lit a2)], 0, none⟩, ⟨6, [GG_c0], 0, none⟩, ⟨6, [[bo false, i6 0, u6 0, nul, .own 5 0, nul]], 0, none⟩, ⟨3, [].map TCell.cells, 0, none⟩] (by decide) (by decide) ⟨.ptr rfl, .ptr rfl, .ptr rfl, .ptr rfl, .ptr rfl, .free rfl rfl, trivial⟩ ⟨⟨_, rfl, bcBox (all2_free rfl)⟩, ⟨_, rfl, bcBox (all2_free rfl)⟩, ⟨_, rfl, bcBox (all2_free rfl)⟩, ⟨_, rfl, bcBox (all2_free rfl)⟩, ⟨_, rfl, bcBox (.cons (.free rfl rfl) <| .cons (.free rfl rfl) <| .cons (.free rfl rfl) <| .cons (.free rfl rfl) <| .cons (.nilOwn) <| .cons (.free rfl rfl) <| .nil)⟩, ⟨_, rfl, (bcRow (l := []) sl30 (Nat.le_refl _) rfl)⟩, trivial⟩ ?_
            obtain ⟨o1, hL1, h⟩ := h
            refine .loopB (r05_Either.b1 a0 a1 a2) (fun (x2, x3) => listEnv [(3, .ptr 0 1 3 0 0), (4, .ptr 1 1 6 0 0), (5, .ptr 2 1 6 0 0), (6, .ptr 3 1 6 0 0), (7, .ptr 4 1 6 0 0), (8, i6 x3)]) (fun (x2, x3) => [⟨3, [(TSpace.lit a0)], 0, none⟩, ⟨6, [(TWeight.lit a1)], 0, none⟩, ⟨6, [(TWeight.lit a2)], 0, none⟩, ⟨6, [GG_c0], 0, none⟩, ⟨6, [[bo false, i6 0, u6 0, nul, .own 5 x2.length, nul]], 0, none⟩, ⟨3, x2.map TCell.cells, 0, none⟩]) (fun x4 => listEnv [(6, .ptr 0 1 6 0 0), (7, .ptr 1 1 6 0 0)]) (fun x4 => [⟨6, [GG_c0], 0, none⟩, ⟨6, [[bo false, i6 0, u6 0, nul, .own 2 x4.length, nul]], 0, none⟩, ⟨3, x4.map TCell.cells, 0, none⟩]) hL1 (fun r_ => r = r_) ?_ ?_ ?_
            · rintro x4 rfl
              try dsimp only [Fin.on] at h
              refine .inBlock <| .seq <| .reg0 rfl (.op 0 rfl (ldG rfl sz33 ag33 rfl) <| .op 0 rfl (stB (cs0 := GG_c0) (cs := [bo false, i6 0, u6 0, nul, .own 2 x4.length, nul]) (cs1 := [bo false, i6 0, u6 0, nul, .own 2 x4.length, nul]) rfl rfl sz33 rfl ⟨Nat.le_of_ble_eq_true rfl, rfl⟩ rfl) <| .nil0) ?_
              replace h := h.symm
              subst h
              refine .k [(6, .cptr [bo false, i6 0, u6 0, .rows (([] : List Int).map (cInt .u64)), .rows (x4.map TCell.cells), .rows (([] : List TWeight).map TWeight.cells)] 0)] ⟨cFixP rfl rfl (.cons (.free rfl rfl) <| .cons (.free rfl rfl) <| .cons (.free rfl rfl) <| .cons (.nil) <| .cons (cFixO (l := x4) sl30 rfl rfl rfl rfl) <| .cons (.nil) <| .nil), trivial⟩ ?_
              exact .ret rfl
            · rintro r_ rfl
              exact h
            · rintro ⟨x2, x3⟩ z1 h hn1 hx1 hr1
              dsimp only [r05_Either.b1] at h
              refine .seq <| .seq <| .reg0 rfl (.op 0 rfl (mvV rfl) <| .op 0 rfl (faP fa25_1 rfl) <| .op 0 rfl (ldP rfl sz3 ag3 rfl) <| .op 0 rfl (ltI rfl rfl) <| .nil0) ?_
              by_cases c8 : x3 < a0.Dim
              · rw [if_pos c8] at h
                refine .condT rfl (dt c8) <| .skip <| .seq <| .block ?_
                obtain ⟨g23_5, h⟩ := h
                obtain ⟨g23_10, h⟩ := h
                obtain ⟨t23_12, g23_12, h⟩ := h
                obtain ⟨g23_14, h⟩ := h
                refine .room 0 <| .room 0 ?_
                refine .reg1 (e1 := listEnv [(3, .ptr 0 1 3 0 0), (4, .ptr 1 1 6 0 0), (5, .ptr 2 1 6 0 0), (6, .ptr 3 1 6 0 0), (7, .ptr 4 1 6 0 0), (8, i6 x3)]) (H1 := [⟨3, [(TSpace.lit a0)], 0, none⟩, ⟨6, [(TWeight.lit a1)], 0, none⟩, ⟨6, [(TWeight.lit a2)], 0, none⟩, ⟨6, [GG_c0], 0, none⟩, ⟨6, [[bo false, i6 0, u6 0, nul, .own 5 ((x2 ++ [t23_12]).length), nul]], 0, none⟩, ⟨3, (x2 ++ [t23_12]).map TCell.cells, 0, none⟩, ⟨3, [t23_12].map TCell.cells, 0, none⟩, Blk.hole]) rfl ?_ ?_
                · exact .drawM [(15, 62, .ptr 4 1 6 0 4), (14, 61, .own 5 ((x2 ++ [t23_12]).length)), (13, 60, .own 6 ([t23_12].length)), (12, 59, .agg (TCell.lit t23_12)), (11, 58, .agg (TCell.lit (rdl a2.Cells x3))), (10, 57, .cptr (TCell.lit (rdl a2.Cells x3)) 0), (9, 56, i6 x3), (8, 55, .rows (a2.Cells.map TCell.cells)), (7, 54, .ptr 2 1 6 0 4), (6, 53, .agg (TCell.lit (rdl a1.Cells x3))), (5, 52, .cptr (TCell.lit (rdl a1.Cells x3)) 0), (4, 51, i6 x3), (3, 50, .rows (a1.Cells.map TCell.cells)), (2, 49, .ptr 1 1 6 0 4), (1, 48, .own 5 x2.length), (0, 47, .ptr 4 1 6 0 4)] [(16, 4, ⟨6, [[bo false, i6 0, u6 0, nul, .own 5 ((x2 ++ [t23_12]).length), nul]], 0, none⟩), (14, 5, ⟨3, (x2 ++ [t23_12]).map TCell.cells, 0, none⟩), (13, 6, ⟨3, [t23_12].map TCell.cells, 0, none⟩)] [[], [0], [], [2], [], [3, 2, 4], [5, 3, 2, 4], [], [7], [], [8, 7, 9], [10, 8, 7, 9], [6, 5, 3, 2, 4, 11, 10, 8, 7, 9], [12, 6, 5, 3, 2, 4, 11, 10, 8, 7, 9], [1, 0, 13, 12, 6, 5, 3, 2, 4, 11, 10, 8, 7, 9], [0, 1, 2, 3, 4, 5, 6, 7, 8, 9, 10, 11, 12, 13, 14], [15, 0, 1, 2, 3, 4, 5, 6, 7, 8, 9, 10, 11, 12, 13, 14]] (by rfl) (by rfl) (by rfl) (by exact ⟨oP (fun _ => faP fa33_3 rfl) rfl, oP (fun _ => ldP rfl sz30 ag30 rfl) rfl, oP (fun _ => faP fa33_3 rfl) rfl, oP (fun _ => ldP rfl sz30 ag30 rfl) rfl, oP (fun _ => mvV rfl) rfl, oP (fun _ => ixR (l := a1.Cells) (lit := TCell.lit) sl30 rfl rfl (fun _ => rfl) g23_5.1 g23_5.2) rfl, oP (fun _ => ldCG rfl sz74 ag74 rfl) rfl, oP (fun _ => faP fa33_3 rfl) rfl, oP (fun _ => ldP rfl sz30 ag30 rfl) rfl, oP (fun _ => mvV rfl) rfl, oP (fun _ => ixR (l := a2.Cells) (lit := TCell.lit) sl30 rfl rfl (fun _ => rfl) g23_10.1 g23_10.2) rfl, oP (fun _ => ldCG rfl sz74 ag74 rfl) rfl, fun S hS hD hn => .oneI hS hD hn rfl rfl (callee_of rfl go80 rfl) (.pure rfl rfl (r05_Joined.D g23_12)) rfl rfl rfl, oW 6 (fun _ => bldL (s := 3) (cs := [u6 t23_12.From, i6 t23_12.Kind, i6 t23_12.K]) un30 sz74 ze74 ⟨by decide, rfl, by decide⟩ rfl rfl rfl rfl) rfl fun _ => rfl, oW 0 (fun _ => ap1 (l := x2) t23_12 sl30 rfl rfl rfl (Nat.zero_le _) (elems_own (l := [t23_12]) rfl rfl) g23_14) rfl fun _ => rfl, oP (fun _ => faP fa33_3 rfl) rfl, fun S hS hD hn => .one0 0 rfl rfl (stB (cs0 := [bo false, i6 0, u6 0, nul, .own 5 x2.length, nul]) (cs := [.own 5 ((x2 ++ [t23_12]).length)]) (cs1 := [bo false, i6 0, u6 0, nul, .own 5 ((x2 ++ [t23_12]).length), nul]) rfl rfl sz30 rfl ⟨Nat.le_of_ble_eq_true rfl, rfl⟩ rfl) (drawE_other _ _ _ _ rfl) rfl, trivial⟩) _ (by exact ⟨.ptr rfl, .ptr rfl, .ptr rfl, .ptr rfl, .ptr rfl, .free rfl rfl, trivial⟩) (by rfl)
                refine .inBlock <| .reg0 rfl (.op 0 rfl (mvV rfl) <| .op 0 rfl (addI rfl rfl) <| .op 0 rfl (asV rfl) <| .nil0) <| .keepL [0, 1, 2, 3, 4, 5] [(3, .ptr 0 1 3 0 0), (4, .ptr 1 1 6 0 0), (5, .ptr 2 1 6 0 0), (6, .ptr 3 1 6 0 0), (7, .ptr 4 1 6 0 0), (8, i6 (IntKind.i64.wrap (x3 + 1)))] [⟨3, [(TSpace.lit a0)], 0, none⟩, ⟨6, [(TWeight.lit a1)], 0, none⟩, ⟨6, [(TWeight.lit a2)], 0, none⟩, ⟨6, [GG_c0], 0, none⟩, ⟨6, [[bo false, i6 0, u6 0, nul, .own 5 ((x2 ++ [t23_12]).length), nul]], 0, none⟩, ⟨3, (x2 ++ [t23_12]).map TCell.cells, 0, none⟩] (by decide) (by decide) ⟨.ptr rfl, .ptr rfl, .ptr rfl, .ptr rfl, .ptr rfl, .free rfl rfl, trivial⟩ ⟨⟨_, rfl, bcBox (all2_free rfl)⟩, ⟨_, rfl, bcBox (all2_free rfl)⟩, ⟨_, rfl, bcBox (all2_free rfl)⟩, ⟨_, rfl, bcBox (all2_free rfl)⟩, ⟨_, rfl, bcBox (.cons (.free rfl rfl) <| .cons (.free rfl rfl) <| .cons (.free rfl rfl) <| .cons (.free rfl rfl) <| .cons (.own rfl) <| .cons (.free rfl rfl) <| .nil)⟩, ⟨_, rfl, bcRow (l := (x2 ++ [t23_12])) sl30 (Nat.le_refl _) rfl⟩, trivial⟩ ?_
                exact hn1 _ h
              · rw [if_neg c8] at h
                refine .condF rfl (df c8) <| .exit rfl <| .keepL [3, 4, 5] [(6, .ptr 0 1 6 0 0), (7, .ptr 1 1 6 0 0)] [⟨6, [GG_c0], 0, none⟩, ⟨6, [[bo false, i6 0, u6 0, nul, .own 2 x2.length, nul]], 0, none⟩, ⟨3, x2.map TCell.cells, 0, none⟩] (by decide) (by decide) ⟨.ptr rfl, .ptr rfl, trivial⟩ ⟨⟨_, rfl, bcBox (all2_free rfl)⟩, ⟨_, rfl, bcBox (.cons (.free rfl rfl) <| .cons (.free rfl rfl) <| .cons (.free rfl rfl) <| .cons (.free rfl rfl) <| .cons (.own rfl) <| .cons (.free rfl rfl) <| .nil)⟩, ⟨_, rfl, bcRow (l := x2) sl30 (Nat.le_refl _) rfl⟩, trivial⟩ ?_
                exact hx1 _ h
          · rw [if_neg c5] at h
            refine .condF rfl (bn c5) <| .seq <| .reg0 rfl (.op 0 rfl (eqI rfl rfl) <| .op 0 rfl (asV rfl) <| .nil0) ?_
            by_cases c9 : a0.Tag = 5
            · rw [if_pos c9] at h
              refine .condT rfl (bt c9) ?_
              obtain ⟨g27_2, h⟩ := h
              obtain ⟨g27_6, h⟩ := h
              obtain ⟨g27_10, h⟩ := h
              obtain ⟨t27_12, g27_12, h⟩ := h
              obtain ⟨g27_15, h⟩ := h
              obtain ⟨g27_19, h⟩ := h
              obtain ⟨g27_23, h⟩ := h
              obtain ⟨t27_25, g27_25, h⟩ := h
              refine .room 0 ?_
              refine .reg1 (e1 := listEnv [(6, .ptr 3 1 6 0 0), (7, .ptr 4 1 6 0 0)]) (H1 := [⟨3, [(TSpace.lit a0)], 0, none⟩, ⟨6, [(TWeight.lit a1)], 0, none⟩, ⟨6, [(TWeight.lit a2)], 0, none⟩, ⟨6, [GG_c0], 0, none⟩, ⟨6, [[bo false, i6 0, u6 0, nul, nul, .own 5 ([t27_12, t27_25].length)]], 0, none⟩, ⟨6, [t27_12, t27_25].map TWeight.cells, 0, none⟩]) rfl ?_ ?_
              · exact .drawM [(27, 92, .ptr 4 1 6 0 5), (26, 91, .own 5 ([t27_12, t27_25].length)), (25, 90, .agg (TWeight.lit t27_25)), (24, 89, .agg (TWeight.lit (rdl a2.Parts 1))), (23, 88, .cptr (TWeight.lit (rdl a2.Parts 1)) 0), (22, 87, .rows (a2.Parts.map TWeight.cells)), (21, 86, .ptr 2 1 6 0 5), (20, 85, .agg (TWeight.lit (rdl a1.Parts 1))), (19, 84, .cptr (TWeight.lit (rdl a1.Parts 1)) 0), (18, 83, .rows (a1.Parts.map TWeight.cells)), (17, 82, .ptr 1 1 6 0 5), (16, 81, .agg (TSpace.lit (rdl a0.Parts 1))), (15, 80, .cptr (TSpace.lit (rdl a0.Parts 1)) 0), (14, 79, .rows (a0.Parts.map TSpace.cells)), (13, 78, .ptr 0 1 3 0 2), (12, 77, .agg (TWeight.lit t27_12)), (11, 76, .agg (TWeight.lit (rdl a2.Parts 0))), (10, 75, .cptr (TWeight.lit (rdl a2.Parts 0)) 0), (9, 74, .rows (a2.Parts.map TWeight.cells)), (8, 73, .ptr 2 1 6 0 5), (7, 72, .agg (TWeight.lit (rdl a1.Parts 0))), (6, 71, .cptr (TWeight.lit (rdl a1.Parts 0)) 0), (5, 70, .rows (a1.Parts.map TWeight.cells)), (4, 69, .ptr 1 1 6 0 5), (3, 68, .agg (TSpace.lit (rdl a0.Parts 0))), (2, 67, .cptr (TSpace.lit (rdl a0.Parts 0)) 0), (1, 66, .rows (a0.Parts.map TSpace.cells)), (0, 65, .ptr 0 1 3 0 2)] [(28, 4, ⟨6, [[bo false, i6 0, u6 0, nul, nul, .own 5 ([t27_12, t27_25].length)]], 0, none⟩), (26, 5, ⟨6, [t27_12, t27_25].map TWeight.cells, 0, none⟩)] [[], [0], [1, 0], [2, 1, 0], [], [4], [5, 4], [6, 5, 4], [], [8], [9, 8], [10, 9, 8], [3, 2, 1, 0, 7, 6, 5, 4, 11, 10, 9, 8], [], [13], [14, 13], [15, 14, 13], [], [17], [18, 17], [19, 18, 17], [], [21], [22, 21], [23, 22, 21], [16, 15, 14, 13, 20, 19, 18, 17, 24, 23, 22, 21, 12, 3, 2, 1, 0, 7, 6, 5, 4, 11, 10, 9, 8], [12, 3, 2, 1, 0, 7, 6, 5, 4, 11, 10, 9, 8, 25, 16, 15, 14, 13, 20, 19, 18, 17, 24, 23, 22, 21], [0, 1, 2, 3, 4, 5, 6, 7, 8, 9, 10, 11, 12, 13, 14, 15, 16, 17, 18, 19, 20, 21, 22, 23, 24, 25, 26], [27, 0, 1, 2, 3, 4, 5, 6, 7, 8, 9, 10, 11, 12, 13, 14, 15, 16, 17, 18, 19, 20, 21, 22, 23, 24, 25, 26]] (by rfl) (by rfl) (by rfl) (by exact ⟨oP (fun _ => faP fa25_2 rfl) rfl, oP (fun _ => ldP rfl sz23 ag23 rfl) rfl, oP (fun _ => ixR (l := a0.Parts) (lit := TSpace.lit) sl23 rfl rfl TSpace.cells_lit g27_2.1 g27_2.2) rfl, oP (fun _ => ldCG rfl sz25 ag25 rfl) rfl, oP (fun _ => faP fa33_4 rfl) rfl, oP (fun _ => ldP rfl sz31 ag31 rfl) rfl, oP (fun _ => ixR (l := a1.Parts) (lit := TWeight.lit) sl31 rfl rfl TWeight.cells_lit g27_6.1 g27_6.2) rfl, oP (fun _ => ldCG rfl sz33 ag33 rfl) rfl, oP (fun _ => faP fa33_4 rfl) rfl, oP (fun _ => ldP rfl sz31 ag31 rfl) rfl, oP (fun _ => ixR (l := a2.Parts) (lit := TWeight.lit) sl31 rfl rfl TWeight.cells_lit g27_10.1 g27_10.2) rfl, oP (fun _ => ldCG rfl sz33 ag33 rfl) rfl, fun S hS hD hn => .oneI hS hD hn rfl rfl (callee_of rfl go48 rfl) (.pure rfl rfl (hs48 _ _ _ _ g27_12)) rfl rfl rfl, oP (fun _ => faP fa25_2 rfl) rfl, oP (fun _ => ldP rfl sz23 ag23 rfl) rfl, oP (fun _ => ixR (l := a0.Parts) (lit := TSpace.lit) sl23 rfl rfl TSpace.cells_lit g27_15.1 g27_15.2) rfl, oP (fun _ => ldCG rfl sz25 ag25 rfl) rfl, oP (fun _ => faP fa33_4 rfl) rfl, oP (fun _ => ldP rfl sz31 ag31 rfl) rfl, oP (fun _ => ixR (l := a1.Parts) (lit := TWeight.lit) sl31 rfl rfl TWeight.cells_lit g27_19.1 g27_19.2) rfl, oP (fun _ => ldCG rfl sz33 ag33 rfl) rfl, oP (fun _ => faP fa33_4 rfl) rfl, oP (fun _ => ldP rfl sz31 ag31 rfl) rfl, oP (fun _ => ixR (l := a2.Parts) (lit := TWeight.lit) sl31 rfl rfl TWeight.cells_lit g27_23.1 g27_23.2) rfl, oP (fun _ => ldCG rfl sz33 ag33 rfl) rfl, fun S hS hD hn => .oneI hS hD hn rfl rfl (callee_of rfl go48 rfl) (.pure rfl rfl (hs48 _ _ _ _ g27_25)) rfl rfl rfl, oW 5 (fun _ => bldT (s := 6) (cs := [bo t27_12.Zero, i6 t27_12.Cost, u6 t27_12.Facts.Gen, .rows (t27_12.Facts.Rows.map (cInt .u64)), .rows (t27_12.Cells.map TCell.cells), .rows (t27_12.Parts.map TWeight.cells), bo t27_25.Zero, i6 t27_25.Cost, u6 t27_25.Facts.Gen, .rows (t27_25.Facts.Rows.map (cInt .u64)), .rows (t27_25.Cells.map TCell.cells), .rows (t27_25.Parts.map TWeight.cells)]) (cf := TWeight.cells) [t27_12, t27_25] un31 sz33 ze33 ⟨by decide, rfl, by decide⟩ rfl rfl rfl (by simp only [List.map, TWeight.cells_lit]; rfl) rfl) rfl fun _ => rfl, oP (fun _ => faP fa33_4 rfl) rfl, fun S hS hD hn => .one0 0 rfl rfl (stB (cs0 := GG_c0) (cs := [.own 5 ([t27_12, t27_25].length)]) (cs1 := [bo false, i6 0, u6 0, nul, nul, .own 5 ([t27_12, t27_25].length)]) rfl rfl sz31 rfl ⟨Nat.le_of_ble_eq_true rfl, rfl⟩ rfl) (drawE_other _ _ _ _ rfl) rfl, trivial⟩) _ (by exact ⟨.ptr rfl, .ptr rfl, trivial⟩) (by rfl)
              refine .inBlock <| .seq <| .reg0 rfl (.op 0 rfl (ldG rfl sz33 ag33 rfl) <| .op 0 rfl (stB (cs0 := GG_c0) (cs := [bo false, i6 0, u6 0, nul, nul, .own 5 ([t27_12, t27_25].length)]) (cs1 := [bo false, i6 0, u6 0, nul, nul, .own 5 ([t27_12, t27_25].length)]) rfl rfl sz33 rfl ⟨Nat.le_of_ble_eq_true rfl, rfl⟩ rfl) <| .nil0) ?_
              replace h := h.symm
              subst h
              refine .k [(6, .cptr [bo false, i6 0, u6 0, .rows (([] : List Int).map (cInt .u64)), .rows (([] : List TCell).map TCell.cells), .rows ([t27_12, t27_25].map TWeight.cells)] 0)] ⟨cFixP rfl rfl (.cons (.free rfl rfl) <| .cons (.free rfl rfl) <| .cons (.free rfl rfl) <| .cons (.nil) <| .cons (.nil) <| .cons (cFixO (l := [t27_12, t27_25]) sl31 rfl rfl rfl rfl) <| .nil), trivial⟩ ?_
              exact .ret rfl
            · rw [if_neg c9] at h
              refine .condF rfl (bn c9) <| .skip <| .inBlock <| .seq <| .reg0 rfl (.op 0 rfl (ldG rfl sz33 ag33 rfl) <| .op 0 rfl (stB (cs0 := GG_c0) (cs := GG_c0) (cs1 := GG_c0) rfl rfl sz33 rfl ⟨Nat.le_of_ble_eq_true rfl, rfl⟩ rfl) <| .nil0) ?_
              replace h := h.symm
              subst h
              refine .k [(6, .cptr GG_c1 0)] ⟨cFixP rfl rfl (.cons (.free rfl rfl) <| .cons (.free rfl rfl) <| .cons (.free rfl rfl) <| .cons (.nil) <| .cons (.nil) <| .cons (.nil) <| .nil), trivial⟩ ?_
              exact .ret rfl
def r05_Either.fN : Nat → TSpace → TWeight → TWeight → TWeight → Prop
  | 0 => fun _ _ _ _ => False
  | n + 1 => r05_Either.step (r05_Either.fN n)
theorem r05_Either.ND : ∀ (n : Nat) {a0 : TSpace} {a1 : TWeight} {a2 : TWeight} {r : TWeight} (h : r05_Either.fN n a0 a1 a2 r), D Tryz.prog X (.callH 48 [.agg (TSpace.lit a0), .agg (TWeight.lit a1), .agg (TWeight.lit a2)] [] (.agg (TWeight.lit r)) [])
  | 0, _, _, _, _, h => h.elim
  | n + 1, _, _, _, _, h => r05_Either.stepD (fun _ _ _ _ h => r05_Either.ND n h) h
def r05_Either.f (a0 : TSpace) (a1 : TWeight) (a2 : TWeight) (r : TWeight) : Prop := ∃ n, r05_Either.fN n a0 a1 a2 r
theorem r05_Either.D {a0 a1 a2 r} (h : r05_Either.f a0 a1 a2 r) : D Tryz.prog X (.callH 48 [.agg (TSpace.lit a0), .agg (TWeight.lit a1), .agg (TWeight.lit a2)] [] (.agg (TWeight.lit r)) []) := by obtain ⟨n, h⟩ := h; exact r05_Either.ND n h
def r05_Combine.b1 (a0 : TSpace) (a1 : List TWeight) : (Bool × Int × Int × (List Int) × (List TCell) × (List TWeight) × Int) → Rnd ((Bool × Int × Int × (List Int) × (List TCell) × (List TWeight) × Int)) ((Bool × Int × Int × (List Int) × (List TCell) × (List TWeight))) (TWeight × Int) → Prop := fun (x1, x2, x3, x4, x5, x6, x7) z1 => if x7 < (a1.length : Int) then (((InR x7 a1.length)) ∧ ∃ t13_6 : TWeight, (r05_Either.f a0 (TWeight.mk x1 x2 (TFacts.mk x3 x4) x5 x6) (rdl a1 x7) t13_6) ∧ z1 = .next (t13_6.Zero, t13_6.Cost, t13_6.Facts.Gen, t13_6.Facts.Rows, t13_6.Cells, t13_6.Parts, (IntKind.i64.wrap (x7 + 1)))) else (z1 = .exit (x1, x2, x3, x4, x5, x6))
def r05_Combine.f (a0 : TSpace) (a1 : List TWeight) (r : TWeight × Int) : Prop :=
  ∃ t2_2 : Int, (r05_all.f a0 a1 t2_2) ∧ if t2_2 = 0 then (∃ t4_1 : TWeight, (r05_zero.f a0 t4_1) ∧ ∃ o1 : Fin ((Bool × Int × Int × (List Int) × (List TCell) × (List TWeight))) (TWeight × Int), Loop (r05_Combine.b1 a0 a1) (t4_1.Zero, t4_1.Cost, t4_1.Facts.Gen, t4_1.Facts.Rows, t4_1.Cells, t4_1.Parts, 0) o1 ∧ o1.on (fun (x8, x9, x10, x11, x12, x13) => r = ((TWeight.mk x8 x9 (TFacts.mk x10 x11) x12 x13), 0)) (fun r_ => r = r_)) else (r = ((TWeight.mk false 0 (TFacts.mk 0 []) [] []), t2_2))
theorem r05_Combine.D {a0 a1 r} (h : r05_Combine.f a0 a1 r) : D Tryz.prog X (.callH 20 [.agg (TSpace.lit a0), .rows (a1.map TWeight.cells)] [] (.tuple [.agg (TWeight.lit r.1), .val (.int .i64 r.2)]) []) := by
  unfold r05_Combine.f at h
  refine .enter 32 0 fn20 rfl rfl rfl <| .seq <| .room 0 <| .room 0 <| .reg0 rfl (.op 0 rfl (bxP (s := 3) (cs := (TSpace.lit a0)) rfl ⟨rfl, by decide, rfl⟩ rfl) <| .op 1 rfl (alP (s := 6) ze33 ⟨rfl, by decide, rfl⟩ rfl) <| .op 0 rfl (asV rfl) <| .nil0) <| .seq ?_
  obtain ⟨t2_2, g2_2, h⟩ := h
  refine .reg0 rfl (.o (ldG rfl sz25 ag25 rfl) <| .o (mvR rfl) <| .c rfl go46 rfl rfl rfl (r05_all.D g2_2) <| .a rfl <| .nil0) <| .seq <| .seq <| .reg0 rfl (.op 0 rfl (mvV rfl) <| .op 0 rfl (neI rfl rfl) <| .nil0) ?_
  by_cases c1 : t2_2 = 0
  · rw [if_pos c1] at h
    refine .condF rfl (nf c1) <| .skip <| .seq ?_
    obtain ⟨t4_1, g4_1, h⟩ := h
    refine .room 0 <| .reg0 rfl (.op 0 rfl (ldG rfl sz25 ag25 rfl) <| .callI rfl (callee_of rfl go47 rfl) (.pure rfl rfl (r05_zero.D g4_1)) <| .op 2 rfl (alP (s := 6) ze33 ⟨rfl, by decide, rfl⟩ rfl) <| .op 0 rfl (stB (cs0 := GG_c0) (cs := (TWeight.lit t4_1)) (cs1 := (TWeight.lit t4_1)) rfl rfl sz33 rfl ⟨Nat.le_of_ble_eq_true rfl, rfl⟩ rfl) <| .nil0) <| .seq <| .seq <| .reg0 rfl (.op 0 rfl (asV rfl) <| .nil0) ?_
    refine .block <| .keepL [0, 1, 2] [(1, .rows (a1.map TWeight.cells)), (2, .ptr 0 1 3 0 0), (4, .ptr 1 1 6 0 0), (7, .ptr 2 1 6 0 0), (8, i6 0)] [⟨3, [(TSpace.lit a0)], 0, none⟩, ⟨6, [GG_c0], 0, none⟩, ⟨6, [(TWeight.lit t4_1)], 0, none⟩] (by decide) (by decide) ⟨.free rfl rfl, .ptr rfl, .ptr rfl, .ptr rfl, .free rfl rfl, trivial⟩ ⟨⟨_, rfl, bcBox (all2_free rfl)⟩, ⟨_, rfl, bcBox (all2_free rfl)⟩, ⟨_, rfl, bcBox (all2_free rfl)⟩, trivial⟩ ?_
    obtain ⟨o1, hL1, h⟩ := h
    refine .loopB (r05_Combine.b1 a0 a1) (fun (x1, x2, x3, x4, x5, x6, x7) => listEnv [(1, .rows (a1.map TWeight.cells)), (2, .ptr 0 1 3 0 0), (4, .ptr 1 1 6 0 0), (7, .ptr 2 1 6 0 0), (8, i6 x7)]) (fun (x1, x2, x3, x4, x5, x6, x7) => [⟨3, [(TSpace.lit a0)], 0, none⟩, ⟨6, [GG_c0], 0, none⟩, ⟨6, [[bo x1, i6 x2, u6 x3, .rows (x4.map (cInt .u64)), .rows (x5.map TCell.cells), .rows (x6.map TWeight.cells)]], 0, none⟩]) (fun (x8, x9, x10, x11, x12, x13) => listEnv [(4, .ptr 0 1 6 0 0), (7, .ptr 1 1 6 0 0)]) (fun (x8, x9, x10, x11, x12, x13) => [⟨6, [GG_c0], 0, none⟩, ⟨6, [[bo x8, i6 x9, u6 x10, .rows (x11.map (cInt .u64)), .rows (x12.map TCell.cells), .rows (x13.map TWeight.cells)]], 0, none⟩]) hL1 (fun r_ => r = r_) ?_ ?_ ?_
    · rintro ⟨x8, x9, x10, x11, x12, x13⟩ rfl
      try dsimp only [Fin.on] at h
      refine .seq <| .reg0 rfl (.op 0 rfl (ldG rfl sz33 ag33 rfl) <| .op 0 rfl (stB (cs0 := GG_c0) (cs := [bo x8, i6 x9, u6 x10, .rows (x11.map (cInt .u64)), .rows (x12.map TCell.cells), .rows (x13.map TWeight.cells)]) (cs1 := [bo x8, i6 x9, u6 x10, .rows (x11.map (cInt .u64)), .rows (x12.map TCell.cells), .rows (x13.map TWeight.cells)]) rfl rfl sz33 rfl ⟨Nat.le_of_ble_eq_true rfl, rfl⟩ rfl) <| .op 0 rfl (asV rfl) <| .nil0) ?_
      replace h := h.symm
      subst h
      refine .k [(4, .cptr [bo x8, i6 x9, u6 x10, .rows (x11.map (cInt .u64)), .rows (x12.map TCell.cells), .rows (x13.map TWeight.cells)] 0), (5, i6 0)] ⟨cFixP rfl rfl (.cons (.free rfl rfl) <| .cons (.free rfl rfl) <| .cons (.free rfl rfl) <| .cons (.free rfl rfl) <| .cons (.free rfl rfl) <| .cons (.free rfl rfl) <| .nil), .free rfl rfl, trivial⟩ ?_
      exact .ret rfl
    · rintro r_ rfl
      exact h
    · rintro ⟨x1, x2, x3, x4, x5, x6, x7⟩ z1 h hn1 hx1 hr1
      dsimp only [r05_Combine.b1] at h
      refine .seq <| .seq <| .reg0 rfl (.op 0 rfl (mvV rfl) <| .op 0 rfl (mvR rfl) <| .op 0 rfl (lnR (l := a1) sl31 rfl) <| .op 0 rfl (ltI rfl rfl) <| .nil0) ?_
      by_cases c4 : x7 < (a1.length : Int)
      · rw [if_pos c4] at h
        refine .condT rfl (dt c4) <| .skip <| .seq <| .block ?_
        obtain ⟨g13_4, h⟩ := h
        obtain ⟨t13_6, g13_6, h⟩ := h
        refine .reg1 (e1 := listEnv [(1, .rows (a1.map TWeight.cells)), (2, .ptr 0 1 3 0 0), (4, .ptr 1 1 6 0 0), (7, .ptr 2 1 6 0 0), (8, i6 x7)]) (H1 := [⟨3, [(TSpace.lit a0)], 0, none⟩, ⟨6, [GG_c0], 0, none⟩, ⟨6, [(TWeight.lit t13_6)], 0, none⟩]) rfl ?_ ?_
        · exact .drawM [(6, 30, .agg (TWeight.lit t13_6)), (5, 29, .agg (TWeight.lit (rdl a1 x7))), (4, 28, .cptr (TWeight.lit (rdl a1 x7)) 0), (3, 27, i6 x7), (2, 26, .rows (a1.map TWeight.cells)), (1, 25, .agg [bo x1, i6 x2, u6 x3, .rows (x4.map (cInt .u64)), .rows (x5.map TCell.cells), .rows (x6.map TWeight.cells)]), (0, 24, .agg (TSpace.lit a0))] [(7, 2, ⟨6, [(TWeight.lit t13_6)], 0, none⟩)] [[], [], [], [], [2, 3], [4, 2, 3], [0, 1, 5, 4, 2, 3], [6, 0, 1, 5, 4, 2, 3]] (by rfl) (by rfl) (by rfl) (by exact ⟨oP (fun _ => ldG rfl sz25 ag25 rfl) rfl, oP (fun _ => ldG rfl sz33 ag33 rfl) rfl, oP (fun _ => mvR rfl) rfl, oP (fun _ => mvV rfl) rfl, oP (fun _ => ixR (l := a1) (lit := TWeight.lit) sl31 rfl rfl TWeight.cells_lit g13_4.1 g13_4.2) rfl, oP (fun _ => ldCG rfl sz33 ag33 rfl) rfl, fun S hS hD hn => .oneI hS hD hn rfl rfl (callee_of rfl go48 rfl) (.pure rfl rfl (r05_Either.D g13_6)) rfl rfl rfl, fun S hS hD hn => .one0 0 rfl rfl (stB (cs0 := [bo x1, i6 x2, u6 x3, .rows (x4.map (cInt .u64)), .rows (x5.map TCell.cells), .rows (x6.map TWeight.cells)]) (cs := (TWeight.lit t13_6)) (cs1 := (TWeight.lit t13_6)) rfl rfl sz33 rfl ⟨Nat.le_of_ble_eq_true rfl, rfl⟩ rfl) (drawE_other _ _ _ _ rfl) rfl, trivial⟩) _ (by exact ⟨.free rfl rfl, .ptr rfl, .ptr rfl, .ptr rfl, .free rfl rfl, trivial⟩) (by rfl)
        refine .inBlock <| .reg0 rfl (.op 0 rfl (mvV rfl) <| .op 0 rfl (addI rfl rfl) <| .op 0 rfl (asV rfl) <| .nil0) <| .keepL [0, 1, 2] [(1, .rows (a1.map TWeight.cells)), (2, .ptr 0 1 3 0 0), (4, .ptr 1 1 6 0 0), (7, .ptr 2 1 6 0 0), (8, i6 (IntKind.i64.wrap (x7 + 1)))] [⟨3, [(TSpace.lit a0)], 0, none⟩, ⟨6, [GG_c0], 0, none⟩, ⟨6, [(TWeight.lit t13_6)], 0, none⟩] (by decide) (by decide) ⟨.free rfl rfl, .ptr rfl, .ptr rfl, .ptr rfl, .free rfl rfl, trivial⟩ ⟨⟨_, rfl, bcBox (all2_free rfl)⟩, ⟨_, rfl, bcBox (all2_free rfl)⟩, ⟨_, rfl, bcBox (all2_free rfl)⟩, trivial⟩ ?_
        exact hn1 _ h
      · rw [if_neg c4] at h
        refine .condF rfl (df c4) <| .exit rfl <| .keepL [1, 2] [(4, .ptr 0 1 6 0 0), (7, .ptr 1 1 6 0 0)] [⟨6, [GG_c0], 0, none⟩, ⟨6, [[bo x1, i6 x2, u6 x3, .rows (x4.map (cInt .u64)), .rows (x5.map TCell.cells), .rows (x6.map TWeight.cells)]], 0, none⟩] (by decide) (by decide) ⟨.ptr rfl, .ptr rfl, trivial⟩ ⟨⟨_, rfl, bcBox (all2_free rfl)⟩, ⟨_, rfl, bcBox (all2_free rfl)⟩, trivial⟩ ?_
        exact hx1 _ h
  · rw [if_neg c1] at h
    refine .condT rfl (nt c1) <| .seq <| .reg0 rfl (.op 0 rfl (bldS (cs := GG_c0) ze33 pl33 rfl rfl) <| .op 0 rfl (mvV rfl) <| .op 0 rfl (stB (cs0 := GG_c0) (cs := GG_c0) (cs1 := GG_c0) rfl rfl sz33 rfl ⟨Nat.le_of_ble_eq_true rfl, rfl⟩ rfl) <| .op 0 rfl (asV rfl) <| .nil0) ?_
    replace h := h.symm
    subst h
    refine .k [(4, .cptr GG_c1 0), (5, i6 t2_2)] ⟨cFixP rfl rfl (.cons (.free rfl rfl) <| .cons (.free rfl rfl) <| .cons (.free rfl rfl) <| .cons (.nil) <| .cons (.nil) <| .cons (.nil) <| .nil), .free rfl rfl, trivial⟩ ?_
    exact .ret rfl
def facts_One.b1 (a0 : Int) : ((List Int) × Int) → Rnd (((List Int) × Int)) ((List Int)) (TFacts × Int) → Prop := fun (x1, x2) z1 => if x2 < ((List.replicate (Int.toNat a0) (0 : Int)).length : Int) then ((((0 : Int) ≤ (IntKind.u64.wrap x2))) ∧ ((InR x2 x1.length)) ∧ z1 = .next ((setl x1 x2 (shlI .u64 1 (IntKind.u64.wrap x2))), (IntKind.i64.wrap (x2 + 1)))) else (z1 = .exit x1)
def facts_One.f (a0 : Int) (r : TFacts × Int) : Prop :=
  ∃ t2_1 : Int × Int, (bits_Full.f a0 t2_1) ∧ if t2_1.2 = 0 then ((((0 : Int) ≤ a0 ∧ Fits a0 8)) ∧ ∃ o1 : Fin ((List Int)) (TFacts × Int), Loop (facts_One.b1 a0) ((List.replicate (Int.toNat a0) (0 : Int)), 0) o1 ∧ o1.on (fun x3 => r = ((TFacts.mk 0 x3), 0)) (fun r_ => r = r_)) else (r = ((TFacts.mk 0 []), 31))
theorem facts_One.D {a0 r} (h : facts_One.f a0 r) : D Tryz.prog X (.callH 68 [.val (.int .i64 a0)] [] (.tuple [.agg (TFacts.lit r.1), .val (.int .i64 r.2)]) []) := by
  unfold facts_One.f at h
  refine .enter 34 0 fn68 rfl rfl rfl <| .seq <| .room 0 <| .reg0 rfl (.op 0 rfl (alP (s := 2) ze29 ⟨rfl, by decide, rfl⟩ rfl) <| .op 0 rfl (asV rfl) <| .nil0) <| .seq <| .seq ?_
  obtain ⟨t2_1, g2_1, h⟩ := h
  refine .reg0 rfl (.m rfl <| .c rfl go115 rfl rfl rfl (bits_Full.D g2_1) <| .o (mvT rfl) <| .o (exT rfl rfl) <| .o (exT rfl rfl) <| .a rfl <| .a rfl <| .nil0) <| .seq <| .reg0 rfl (.op 0 rfl (mvV rfl) <| .op 0 rfl (neI rfl rfl) <| .nil0) ?_
  by_cases c1 : t2_1.2 = 0
  · rw [if_pos c1] at h
    refine .condF rfl (nf c1) <| .skip <| .seq ?_
    obtain ⟨g4_1, h⟩ := h
    refine .room 0 <| .room 0 <| .reg0 rfl (.op 0 rfl (mvV rfl) <| .op 1 rfl (mkS (z0 := (0 : Int)) sl27 un27 ze26 rfl rfl g4_1.1 g4_1.2 rfl) <| .op 0 rfl (bldS (cs := [u6 0, .own 1 ((List.replicate (Int.toNat a0) (0 : Int)).length)]) ze29 pl29 rfl rfl) <| .op 2 rfl (alP (s := 2) ze29 ⟨rfl, by decide, rfl⟩ rfl) <| .op 0 rfl (stB (cs0 := [u6 0, nul]) (cs := [u6 0, .own 1 ((List.replicate (Int.toNat a0) (0 : Int)).length)]) (cs1 := [u6 0, .own 1 ((List.replicate (Int.toNat a0) (0 : Int)).length)]) rfl rfl sz29 rfl ⟨Nat.le_of_ble_eq_true rfl, rfl⟩ rfl) <| .nil0) ?_
    refine .seq <| .seq <| .reg0 rfl (.op 0 rfl (faP fa29_1 rfl) <| .op 0 rfl (ldP rfl sz27 ag27 rfl) <| .op 0 rfl (lnO (l := (List.replicate (Int.toNat a0) (0 : Int))) sl27 rfl rfl rfl) <| .op 0 rfl (mvV rfl) <| .nil0) <| .block <| .keepL [0, 2, 1] [(2, .ptr 0 1 2 0 0), (6, .ptr 1 1 2 0 0), (21, i6 ((List.replicate (Int.toNat a0) (0 : Int)).length : Int)), (22, i6 0)] [⟨2, [[u6 0, nul]], 0, none⟩, ⟨2, [[u6 0, .own 2 ((List.replicate (Int.toNat a0) (0 : Int)).length)]], 0, none⟩, ⟨1, (List.replicate (Int.toNat a0) (0 : Int)).map (cInt .u64), 0, none⟩] (by decide) (by decide) ⟨.ptr rfl, .ptr rfl, .free rfl rfl, .free rfl rfl, trivial⟩ ⟨⟨_, rfl, bcBox (all2_free rfl)⟩, ⟨_, rfl, bcBox (.cons (.free rfl rfl) <| .cons (.own rfl) <| .nil)⟩, ⟨_, rfl, bcRow (l := (List.replicate (Int.toNat a0) (0 : Int))) sl27 (Nat.le_refl _) rfl⟩, trivial⟩ ?_
    obtain ⟨o1, hL1, h⟩ := h
    refine .loopB (facts_One.b1 a0) (fun (x1, x2) => listEnv [(2, .ptr 0 1 2 0 0), (6, .ptr 1 1 2 0 0), (21, i6 ((List.replicate (Int.toNat a0) (0 : Int)).length : Int)), (22, i6 x2)]) (fun (x1, x2) => [⟨2, [[u6 0, nul]], 0, none⟩, ⟨2, [[u6 0, .own 2 x1.length]], 0, none⟩, ⟨1, x1.map (cInt .u64), 0, none⟩]) (fun x3 => listEnv [(2, .ptr 0 1 2 0 0), (6, .ptr 1 1 2 0 0)]) (fun x3 => [⟨2, [[u6 0, nul]], 0, none⟩, ⟨2, [[u6 0, .own 2 x3.length]], 0, none⟩, ⟨1, x3.map (cInt .u64), 0, none⟩]) hL1 (fun r_ => r = r_) ?_ ?_ ?_
    · rintro x3 rfl
      try dsimp only [Fin.on] at h
      refine .seq <| .reg0 rfl (.op 0 rfl (ldG rfl sz29 ag29 rfl) <| .op 0 rfl (stB (cs0 := [u6 0, nul]) (cs := [u6 0, .own 2 x3.length]) (cs1 := [u6 0, .own 2 x3.length]) rfl rfl sz29 rfl ⟨Nat.le_of_ble_eq_true rfl, rfl⟩ rfl) <| .op 0 rfl (asV rfl) <| .nil0) ?_
      replace h := h.symm
      subst h
      refine .k [(2, .cptr [u6 0, .rows (x3.map (cInt .u64))] 0), (3, i6 0)] ⟨cFixP rfl rfl (.cons (.free rfl rfl) <| .cons (cFixO (l := x3) sl27 rfl rfl rfl rfl) <| .nil), .free rfl rfl, trivial⟩ ?_
      exact .ret rfl
    · rintro r_ rfl
      exact h
    · rintro ⟨x1, x2⟩ z1 h hn1 hx1 hr1
      dsimp only [facts_One.b1] at h
      refine .seq <| .reg0 rfl (.op 0 rfl (ltI rfl rfl) <| .nil0) <| .seq ?_
      by_cases c4 : x2 < ((List.replicate (Int.toNat a0) (0 : Int)).length : Int)
      · rw [if_pos c4] at h
        refine .condT rfl (dt c4) <| .skip <| .seq <| .block <| .seq <| .reg0 rfl (.op 0 rfl (mvV rfl) <| .op 0 rfl (asV rfl) <| .nil0) ?_
        obtain ⟨g16_5, h⟩ := h
        obtain ⟨g16_6, h⟩ := h
        refine .reg0 rfl (.o (faP fa29_1 rfl) <| .o (ldP rfl sz27 ag27 rfl) <| .m rfl <| .m rfl <| .o (convI un3 un145 rfl) <| .o (shl_ rfl rfl g16_5) <| .o (ixO (l := x1) sl27 rfl rfl rfl rfl g16_6.1 g16_6.2) <| .o (stO (l := x1) (j := x2) (cs := [u6 (shlI .u64 1 (IntKind.u64.wrap x2))]) (shlI .u64 1 (IntKind.u64.wrap x2)) sl27 rfl rfl sz26 rfl rfl g16_6.1 g16_6.2 (Nat.zero_le _) ⟨Nat.le_of_ble_eq_true rfl, rfl⟩ rfl) <| .nil0) ?_
        refine .inBlock <| .reg0 rfl (.op 0 rfl (addI rfl rfl) <| .op 0 rfl (mvV rfl) <| .nil0) <| .keepL [0, 1, 2] [(2, .ptr 0 1 2 0 0), (6, .ptr 1 1 2 0 0), (21, i6 ((List.replicate (Int.toNat a0) (0 : Int)).length : Int)), (22, i6 (IntKind.i64.wrap (x2 + 1)))] [⟨2, [[u6 0, nul]], 0, none⟩, ⟨2, [[u6 0, .own 2 ((setl x1 x2 (shlI .u64 1 (IntKind.u64.wrap x2))).length)]], 0, none⟩, ⟨1, (setl x1 x2 (shlI .u64 1 (IntKind.u64.wrap x2))).map (cInt .u64), 0, none⟩] (by decide) (by decide) ⟨.ptr rfl, .ptr rfl, .free rfl rfl, .free rfl rfl, trivial⟩ ⟨⟨_, rfl, bcBox (all2_free rfl)⟩, ⟨_, rfl, bcBox (.cons (.free rfl rfl) <| .cons (cOwnE rfl (by simp only [setl, List.length_set])) <| .nil)⟩, ⟨_, rfl, bcRow (l := (setl x1 x2 (shlI .u64 1 (IntKind.u64.wrap x2)))) sl27 (Nat.le_refl _) rfl⟩, trivial⟩ ?_
        exact hn1 _ h
      · rw [if_neg c4] at h
        refine .condF rfl (df c4) <| .exit rfl <| .keepL [0, 1, 2] [(2, .ptr 0 1 2 0 0), (6, .ptr 1 1 2 0 0)] [⟨2, [[u6 0, nul]], 0, none⟩, ⟨2, [[u6 0, .own 2 x1.length]], 0, none⟩, ⟨1, x1.map (cInt .u64), 0, none⟩] (by decide) (by decide) ⟨.ptr rfl, .ptr rfl, trivial⟩ ⟨⟨_, rfl, bcBox (all2_free rfl)⟩, ⟨_, rfl, bcBox (.cons (.free rfl rfl) <| .cons (.own rfl) <| .nil)⟩, ⟨_, rfl, bcRow (l := x1) sl27 (Nat.le_refl _) rfl⟩, trivial⟩ ?_
        exact hx1 _ h
  · rw [if_neg c1] at h
    refine .condT rfl (nt c1) <| .seq <| .reg0 rfl (.op 0 rfl (bldS (cs := [u6 0, nul]) ze29 pl29 rfl rfl) <| .op 0 rfl (stB (cs0 := [u6 0, nul]) (cs := [u6 0, nul]) (cs1 := [u6 0, nul]) rfl rfl sz29 rfl ⟨Nat.le_of_ble_eq_true rfl, rfl⟩ rfl) <| .op 0 rfl (asV rfl) <| .nil0) ?_
    replace h := h.symm
    subst h
    refine .k [(2, .cptr [u6 0, .rows (([] : List Int).map (cInt .u64))] 0), (3, i6 31)] ⟨cFixP rfl rfl (.cons (.free rfl rfl) <| .cons (.nil) <| .nil), .free rfl rfl, trivial⟩ ?_
    exact .ret rfl
def cells_one.b1 (a0 : Int) : ((List TCell) × Int) → Rnd (((List TCell) × Int)) ((List TCell)) ((List TCell)) → Prop := fun (x1, x2) z1 => if x2 < a0 then ((((0 : Int) ≤ x2)) ∧ ((InR x2 x1.length)) ∧ z1 = .next ((setl x1 x2 (TCell.mk (shlI .u64 1 x2) ((rdl x1 x2).Kind) ((rdl x1 x2).K))), (IntKind.i64.wrap (x2 + 1)))) else (z1 = .exit x1)
def cells_one.f (a0 : Int) (r : (List TCell)) : Prop :=
  (((0 : Int) ≤ a0 ∧ Fits a0 24)) ∧ ∃ o1 : Fin ((List TCell)) ((List TCell)), Loop (cells_one.b1 a0) ((List.replicate (Int.toNat a0) (TCell.mk 0 0 0)), 0) o1 ∧ o1.on (fun x3 => r = x3) (fun r_ => r = r_)
theorem cells_one.D {a0 r} (h : cells_one.f a0 r) : D Tryz.prog X (.callH 116 [.val (.int .i64 a0)] [] (.rows (r.map TCell.cells)) []) := by
  unfold cells_one.f at h
  refine .enter 19 0 fn116 rfl rfl rfl <| .seq <| .reg0 rfl (.op 0 rfl (asV rfl) <| .nil0) <| .seq ?_
  obtain ⟨g2_1, h⟩ := h
  refine .room 0 <| .reg0 rfl (.op 0 rfl (mvV rfl) <| .op 0 rfl (mkS (z0 := (TCell.mk 0 0 0)) sl30 un30 ze74 rfl rfl g2_1.1 g2_1.2 rfl) <| .op 0 rfl (asO rfl) <| .nil0) <| .seq <| .seq <| .reg0 rfl (.op 0 rfl (mvV rfl) <| .op 0 rfl (mvV rfl) <| .nil0) <| .block <| .keepL [0] [(3, .own 0 ((List.replicate (Int.toNat a0) (TCell.mk 0 0 0)).length)), (7, i6 a0), (8, i6 0)] [⟨3, (List.replicate (Int.toNat a0) (TCell.mk 0 0 0)).map TCell.cells, 0, none⟩] (by decide) (by decide) ⟨.own rfl, .free rfl rfl, .free rfl rfl, trivial⟩ ⟨⟨_, rfl, bcRow (l := (List.replicate (Int.toNat a0) (TCell.mk 0 0 0))) sl30 (Nat.le_refl _) rfl⟩, trivial⟩ ?_
  obtain ⟨o1, hL1, h⟩ := h
  refine .loopB (cells_one.b1 a0) (fun (x1, x2) => listEnv [(3, .own 0 x1.length), (7, i6 a0), (8, i6 x2)]) (fun (x1, x2) => [⟨3, x1.map TCell.cells, 0, none⟩]) (fun x3 => listEnv [(3, .own 0 x3.length)]) (fun x3 => [⟨3, x3.map TCell.cells, 0, none⟩]) hL1 (fun r_ => r = r_) ?_ ?_ ?_
  · rintro x3 rfl
    try dsimp only [Fin.on] at h
    refine .seq <| .reg0 rfl (.op 0 rfl (mvO rfl) <| .op 0 rfl (asO rfl) <| .nil0) ?_
    replace h := h.symm
    subst h
    refine .k [(2, .rows (x3.map TCell.cells))] ⟨cFixO (l := x3) sl30 rfl rfl rfl rfl, trivial⟩ ?_
    exact .ret rfl
  · rintro r_ rfl
    exact h
  · rintro ⟨x1, x2⟩ z1 h hn1 hx1 hr1
    dsimp only [cells_one.b1] at h
    refine .seq <| .reg0 rfl (.op 0 rfl (ltI rfl rfl) <| .nil0) <| .seq ?_
    by_cases c3 : x2 < a0
    · rw [if_pos c3] at h
      refine .condT rfl (dt c3) <| .skip <| .seq <| .block <| .seq <| .reg0 rfl (.op 0 rfl (mvV rfl) <| .op 0 rfl (asV rfl) <| .nil0) ?_
      obtain ⟨g14_3, h⟩ := h
      obtain ⟨g14_4, h⟩ := h
      refine .reg0 rfl (.o (mvO rfl) <| .m rfl <| .m rfl <| .o (shl_ rfl rfl g14_3) <| .o (ixO (l := x1) sl30 rfl rfl rfl rfl g14_4.1 g14_4.2) <| .o (faP fa74_0 rfl) <| .o (stO (l := x1) (j := x2) (cs := [u6 (shlI .u64 1 x2)]) (TCell.mk (shlI .u64 1 x2) ((rdl x1 x2).Kind) ((rdl x1 x2).K)) sl30 rfl rfl sz26 rfl rfl g14_4.1 g14_4.2 (Nat.zero_le _) ⟨Nat.le_of_ble_eq_true rfl, rfl⟩ rfl) <| .nil0) <| .inBlock <| .reg0 rfl (.op 0 rfl (addI rfl rfl) <| .op 0 rfl (mvV rfl) <| .nil0) ?_
      refine .keepL [0] [(3, .own 0 ((setl x1 x2 (TCell.mk (shlI .u64 1 x2) ((rdl x1 x2).Kind) ((rdl x1 x2).K))).length)), (7, i6 a0), (8, i6 (IntKind.i64.wrap (x2 + 1)))] [⟨3, (setl x1 x2 (TCell.mk (shlI .u64 1 x2) ((rdl x1 x2).Kind) ((rdl x1 x2).K))).map TCell.cells, 0, none⟩] (by decide) (by decide) ⟨cOwnE rfl (by simp only [setl, List.length_set]), .free rfl rfl, .free rfl rfl, trivial⟩ ⟨⟨_, rfl, bcRow (l := (setl x1 x2 (TCell.mk (shlI .u64 1 x2) ((rdl x1 x2).Kind) ((rdl x1 x2).K)))) sl30 (Nat.le_refl _) rfl⟩, trivial⟩ ?_
      exact hn1 _ h
    · rw [if_neg c3] at h
      refine .condF rfl (df c3) <| .exit rfl <| .keepL [0] [(3, .own 0 x1.length)] [⟨3, x1.map TCell.cells, 0, none⟩] (by decide) (by decide) ⟨.own rfl, trivial⟩ ⟨⟨_, rfl, bcRow (l := x1) sl30 (Nat.le_refl _) rfl⟩, trivial⟩ ?_
      exact hx1 _ h
def cells_One.f (a0 : Int) (r : (List TCell) × Int) : Prop :=
  ∃ t2_1 : Int, (cells_dims.f a0 t2_1) ∧ if t2_1 = 0 then (∃ t4_1 : (List TCell), (cells_one.f a0 t4_1) ∧ r = (t4_1, 0)) else (r = ([], t2_1))
theorem cells_One.D {a0 r} (h : cells_One.f a0 r) : D Tryz.prog X (.callH 69 [.val (.int .i64 a0)] [] (.tuple [.rows (r.1.map TCell.cells), .val (.int .i64 r.2)]) []) := by
  unfold cells_One.f at h
  refine .enter 12 0 fn69 rfl rfl rfl <| .seq <| .reg0 rfl (.op 0 rfl (asV rfl) <| .op 0 rfl (asV rfl) <| .nil0) <| .seq <| .seq ?_
  obtain ⟨t2_1, g2_1, h⟩ := h
  refine .reg0 rfl (.m rfl <| .c rfl go89 rfl rfl rfl (cells_dims.D g2_1) <| .a rfl <| .nil0) <| .seq <| .reg0 rfl (.op 0 rfl (mvV rfl) <| .op 0 rfl (neI rfl rfl) <| .nil0) ?_
  by_cases c1 : t2_1 = 0
  · rw [if_pos c1] at h
    refine .condF rfl (nf c1) <| .skip <| .seq ?_
    obtain ⟨t4_1, g4_1, h⟩ := h
    refine .reg0 rfl (.m rfl <| .c rfl go116 rfl rfl rfl (cells_one.D g4_1) <| .o (asR rfl) <| .a rfl <| .nil0) ?_
    replace h := h.symm
    subst h
    refine .kf [(2, .rows (t4_1.map TCell.cells)), (3, i6 0)] rfl rfl ?_
    exact .ret rfl
  · rw [if_neg c1] at h
    refine .condT rfl (nt c1) <| .seq <| .reg0 rfl (.op 0 rfl (mvV rfl) <| .op 0 rfl (asV rfl) <| .op 0 rfl (asV rfl) <| .nil0) ?_
    replace h := h.symm
    subst h
    refine .k [(2, .rows (([] : List TCell).map TCell.cells)), (3, i6 t2_1)] ⟨.nil, .free rfl rfl, trivial⟩ ?_
    exact .ret rfl
def weight_one.step (self40 : TSpace → TWeight → Prop) (a0 : TSpace) (r : TWeight) : Prop :=
  if a0.Tag = 3 then (∃ t5_2 : TFacts × Int, (facts_One.f a0.Dim t5_2) ∧ r = (TWeight.mk false 0 t5_2.1 [] [])) else (if a0.Tag = 4 then (∃ t8_2 : (List TCell) × Int, (cells_One.f a0.Dim t8_2) ∧ r = (TWeight.mk false 0 (TFacts.mk 0 []) t8_2.1 [])) else (if a0.Tag = 5 then (((InR 0 a0.Parts.length)) ∧ ∃ t11_4 : TWeight, (self40 (rdl a0.Parts 0) t11_4) ∧ ((InR 1 a0.Parts.length)) ∧ ∃ t11_9 : TWeight, (self40 (rdl a0.Parts 1) t11_9) ∧ r = (TWeight.mk false 0 (TFacts.mk 0 []) [] [t11_4, t11_9])) else (r = (TWeight.mk false 0 (TFacts.mk 0 []) [] []))))
theorem weight_one.stepD {self40 : TSpace → TWeight → Prop} {a0 : TSpace} (hs40 : ∀ z0_ r_, self40 z0_ r_ → D Tryz.prog X (.callH 40 [.agg (TSpace.lit z0_)] [] (.agg (TWeight.lit r_)) [])) {r : TWeight} (h : weight_one.step self40 a0 r) : D Tryz.prog X (.callH 40 [.agg (TSpace.lit a0)] [] (.agg (TWeight.lit r)) []) := by
  unfold weight_one.step at h
  refine .enter 39 0 fn40 rfl rfl rfl <| .seq <| .room 0 <| .room 0 <| .reg0 rfl (.op 0 rfl (bxP (s := 3) (cs := (TSpace.lit a0)) rfl ⟨rfl, by decide, rfl⟩ rfl) <| .op 1 rfl (alP (s := 6) ze33 ⟨rfl, by decide, rfl⟩ rfl) <| .nil0) <| .seq <| .room 0 <| .reg0 rfl (.op 2 rfl (alP (s := 6) ze33 ⟨rfl, by decide, rfl⟩ rfl) <| .nil0) <| .seq <| .seq <| .reg0 rfl (.op 0 rfl (faP fa25_0 rfl) <| .op 0 rfl (ldP rfl sz22 ag22 rfl) <| .nil0) ?_
  refine .block <| .seq <| .reg0 rfl (.op 0 rfl (eqI rfl rfl) <| .op 0 rfl (asV rfl) <| .nil0) ?_
  by_cases c1 : a0.Tag = 3
  · rw [if_pos c1] at h
    refine .condT rfl (bt c1) ?_
    obtain ⟨t5_2, g5_2, h⟩ := h
    refine .reg0 rfl (.o (faP fa25_1 rfl) <| .o (ldP rfl sz3 ag3 rfl) <| .c rfl go68 rfl rfl rfl (facts_One.D g5_2) <| .o (mvT rfl) <| .o (exT rfl rfl) <| .o (exT rfl rfl) <| .o (faP fa33_2 rfl) <| .o (stB (cs0 := GG_c0) (cs := (TFacts.lit t5_2.1)) (cs1 := [bo false, i6 0, u6 t5_2.1.Gen, .rows (t5_2.1.Rows.map (cInt .u64)), nul, nul]) rfl rfl sz29 rfl ⟨Nat.le_of_ble_eq_true rfl, rfl⟩ rfl) <| .nil0) ?_
    refine .inBlock <| .seq <| .reg0 rfl (.op 0 rfl (ldG rfl sz33 ag33 rfl) <| .op 0 rfl (stB (cs0 := GG_c0) (cs := [bo false, i6 0, u6 t5_2.1.Gen, .rows (t5_2.1.Rows.map (cInt .u64)), nul, nul]) (cs1 := [bo false, i6 0, u6 t5_2.1.Gen, .rows (t5_2.1.Rows.map (cInt .u64)), nul, nul]) rfl rfl sz33 rfl ⟨Nat.le_of_ble_eq_true rfl, rfl⟩ rfl) <| .nil0) ?_
    replace h := h.symm
    subst h
    refine .k [(2, .cptr [bo false, i6 0, u6 t5_2.1.Gen, .rows (t5_2.1.Rows.map (cInt .u64)), .rows (([] : List TCell).map TCell.cells), .rows (([] : List TWeight).map TWeight.cells)] 0)] ⟨cFixP rfl rfl (.cons (.free rfl rfl) <| .cons (.free rfl rfl) <| .cons (.free rfl rfl) <| .cons (.free rfl rfl) <| .cons (.nil) <| .cons (.nil) <| .nil), trivial⟩ ?_
    exact .ret rfl
  · rw [if_neg c1] at h
    refine .condF rfl (bn c1) <| .seq <| .reg0 rfl (.op 0 rfl (eqI rfl rfl) <| .op 0 rfl (asV rfl) <| .nil0) ?_
    by_cases c2 : a0.Tag = 4
    · rw [if_pos c2] at h
      refine .condT rfl (bt c2) ?_
      obtain ⟨t8_2, g8_2, h⟩ := h
      refine .reg0 rfl (.o (faP fa25_1 rfl) <| .o (ldP rfl sz3 ag3 rfl) <| .c rfl go69 rfl rfl rfl (cells_One.D g8_2) <| .o (mvT rfl) <| .o (exT rfl rfl) <| .o (exT rfl rfl) <| .o (faP fa33_3 rfl) <| .o (stB (cs0 := GG_c0) (cs := [.rows (t8_2.1.map TCell.cells)]) (cs1 := [bo false, i6 0, u6 0, nul, .rows (t8_2.1.map TCell.cells), nul]) rfl rfl sz30 rfl ⟨Nat.le_of_ble_eq_true rfl, rfl⟩ rfl) <| .nil0) ?_
      refine .inBlock <| .seq <| .reg0 rfl (.op 0 rfl (ldG rfl sz33 ag33 rfl) <| .op 0 rfl (stB (cs0 := GG_c0) (cs := [bo false, i6 0, u6 0, nul, .rows (t8_2.1.map TCell.cells), nul]) (cs1 := [bo false, i6 0, u6 0, nul, .rows (t8_2.1.map TCell.cells), nul]) rfl rfl sz33 rfl ⟨Nat.le_of_ble_eq_true rfl, rfl⟩ rfl) <| .nil0) ?_
      replace h := h.symm
      subst h
      refine .k [(2, .cptr [bo false, i6 0, u6 0, .rows (([] : List Int).map (cInt .u64)), .rows (t8_2.1.map TCell.cells), .rows (([] : List TWeight).map TWeight.cells)] 0)] ⟨cFixP rfl rfl (.cons (.free rfl rfl) <| .cons (.free rfl rfl) <| .cons (.free rfl rfl) <| .cons (.nil) <| .cons (.free rfl rfl) <| .cons (.nil) <| .nil), trivial⟩ ?_
      exact .ret rfl
    · rw [if_neg c2] at h
      refine .condF rfl (bn c2) <| .seq <| .reg0 rfl (.op 0 rfl (eqI rfl rfl) <| .op 0 rfl (asV rfl) <| .nil0) ?_
      by_cases c3 : a0.Tag = 5
      · rw [if_pos c3] at h
        refine .condT rfl (bt c3) ?_
        obtain ⟨g11_2, h⟩ := h
        obtain ⟨t11_4, g11_4, h⟩ := h
        obtain ⟨g11_7, h⟩ := h
        obtain ⟨t11_9, g11_9, h⟩ := h
        refine .room 0 ?_
        refine .reg1 (e1 := listEnv [(2, .ptr 1 1 6 0 0), (3, .ptr 2 1 6 0 0)]) (H1 := [⟨3, [(TSpace.lit a0)], 0, none⟩, ⟨6, [GG_c0], 0, none⟩, ⟨6, [[bo false, i6 0, u6 0, nul, nul, .own 3 ([t11_4, t11_9].length)]], 0, none⟩, ⟨6, [t11_4, t11_9].map TWeight.cells, 0, none⟩]) rfl ?_ ?_
        · exact .drawM [(11, 37, .ptr 2 1 6 0 5), (10, 36, .own 3 ([t11_4, t11_9].length)), (9, 35, .agg (TWeight.lit t11_9)), (8, 34, .agg (TSpace.lit (rdl a0.Parts 1))), (7, 33, .cptr (TSpace.lit (rdl a0.Parts 1)) 0), (6, 32, .rows (a0.Parts.map TSpace.cells)), (5, 31, .ptr 0 1 3 0 2), (4, 30, .agg (TWeight.lit t11_4)), (3, 29, .agg (TSpace.lit (rdl a0.Parts 0))), (2, 28, .cptr (TSpace.lit (rdl a0.Parts 0)) 0), (1, 27, .rows (a0.Parts.map TSpace.cells)), (0, 26, .ptr 0 1 3 0 2)] [(12, 2, ⟨6, [[bo false, i6 0, u6 0, nul, nul, .own 3 ([t11_4, t11_9].length)]], 0, none⟩), (10, 3, ⟨6, [t11_4, t11_9].map TWeight.cells, 0, none⟩)] [[], [0], [1, 0], [2, 1, 0], [3, 2, 1, 0], [], [5], [6, 5], [7, 6, 5], [8, 7, 6, 5, 4, 3, 2, 1, 0], [4, 3, 2, 1, 0, 9, 8, 7, 6, 5], [0, 1, 2, 3, 4, 5, 6, 7, 8, 9, 10], [11, 0, 1, 2, 3, 4, 5, 6, 7, 8, 9, 10]] (by rfl) (by rfl) (by rfl) (by exact ⟨oP (fun _ => faP fa25_2 rfl) rfl, oP (fun _ => ldP rfl sz23 ag23 rfl) rfl, oP (fun _ => ixR (l := a0.Parts) (lit := TSpace.lit) sl23 rfl rfl TSpace.cells_lit g11_2.1 g11_2.2) rfl, oP (fun _ => ldCG rfl sz25 ag25 rfl) rfl, fun S hS hD hn => .oneI hS hD hn rfl rfl (callee_of rfl go40 rfl) (.pure rfl rfl (hs40 _ _ g11_4)) rfl rfl rfl, oP (fun _ => faP fa25_2 rfl) rfl, oP (fun _ => ldP rfl sz23 ag23 rfl) rfl, oP (fun _ => ixR (l := a0.Parts) (lit := TSpace.lit) sl23 rfl rfl TSpace.cells_lit g11_7.1 g11_7.2) rfl, oP (fun _ => ldCG rfl sz25 ag25 rfl) rfl, fun S hS hD hn => .oneI hS hD hn rfl rfl (callee_of rfl go40 rfl) (.pure rfl rfl (hs40 _ _ g11_9)) rfl rfl rfl, oW 3 (fun _ => bldT (s := 6) (cs := [bo t11_4.Zero, i6 t11_4.Cost, u6 t11_4.Facts.Gen, .rows (t11_4.Facts.Rows.map (cInt .u64)), .rows (t11_4.Cells.map TCell.cells), .rows (t11_4.Parts.map TWeight.cells), bo t11_9.Zero, i6 t11_9.Cost, u6 t11_9.Facts.Gen, .rows (t11_9.Facts.Rows.map (cInt .u64)), .rows (t11_9.Cells.map TCell.cells), .rows (t11_9.Parts.map TWeight.cells)]) (cf := TWeight.cells) [t11_4, t11_9] un31 sz33 ze33 ⟨by decide, rfl, by decide⟩ rfl rfl rfl (by simp only [List.map, TWeight.cells_lit]; rfl) rfl) rfl fun _ => rfl, oP (fun _ => faP fa33_4 rfl) rfl, fun S hS hD hn => .one0 0 rfl rfl (stB (cs0 := GG_c0) (cs := [.own 3 ([t11_4, t11_9].length)]) (cs1 := [bo false, i6 0, u6 0, nul, nul, .own 3 ([t11_4, t11_9].length)]) rfl rfl sz31 rfl ⟨Nat.le_of_ble_eq_true rfl, rfl⟩ rfl) (drawE_other _ _ _ _ rfl) rfl, trivial⟩) _ (by exact ⟨.ptr rfl, .ptr rfl, trivial⟩) (by rfl)
        refine .inBlock <| .seq <| .reg0 rfl (.op 0 rfl (ldG rfl sz33 ag33 rfl) <| .op 0 rfl (stB (cs0 := GG_c0) (cs := [bo false, i6 0, u6 0, nul, nul, .own 3 ([t11_4, t11_9].length)]) (cs1 := [bo false, i6 0, u6 0, nul, nul, .own 3 ([t11_4, t11_9].length)]) rfl rfl sz33 rfl ⟨Nat.le_of_ble_eq_true rfl, rfl⟩ rfl) <| .nil0) ?_
        replace h := h.symm
        subst h
        refine .k [(2, .cptr [bo false, i6 0, u6 0, .rows (([] : List Int).map (cInt .u64)), .rows (([] : List TCell).map TCell.cells), .rows ([t11_4, t11_9].map TWeight.cells)] 0)] ⟨cFixP rfl rfl (.cons (.free rfl rfl) <| .cons (.free rfl rfl) <| .cons (.free rfl rfl) <| .cons (.nil) <| .cons (.nil) <| .cons (cFixO (l := [t11_4, t11_9]) sl31 rfl rfl rfl rfl) <| .nil), trivial⟩ ?_
        exact .ret rfl
      · rw [if_neg c3] at h
        refine .condF rfl (bn c3) <| .skip <| .inBlock <| .seq <| .reg0 rfl (.op 0 rfl (ldG rfl sz33 ag33 rfl) <| .op 0 rfl (stB (cs0 := GG_c0) (cs := GG_c0) (cs1 := GG_c0) rfl rfl sz33 rfl ⟨Nat.le_of_ble_eq_true rfl, rfl⟩ rfl) <| .nil0) ?_
        replace h := h.symm
        subst h
        refine .k [(2, .cptr GG_c1 0)] ⟨cFixP rfl rfl (.cons (.free rfl rfl) <| .cons (.free rfl rfl) <| .cons (.free rfl rfl) <| .cons (.nil) <| .cons (.nil) <| .cons (.nil) <| .nil), trivial⟩ ?_
        exact .ret rfl
def weight_one.fN : Nat → TSpace → TWeight → Prop
  | 0 => fun _ _ => False
  | n + 1 => weight_one.step (weight_one.fN n)
theorem weight_one.ND : ∀ (n : Nat) {a0 : TSpace} {r : TWeight} (h : weight_one.fN n a0 r), D Tryz.prog X (.callH 40 [.agg (TSpace.lit a0)] [] (.agg (TWeight.lit r)) [])
  | 0, _, _, h => h.elim
  | n + 1, _, _, h => weight_one.stepD (fun _ _ h => weight_one.ND n h) h
def weight_one.f (a0 : TSpace) (r : TWeight) : Prop := ∃ n, weight_one.fN n a0 r
theorem weight_one.D {a0 r} (h : weight_one.f a0 r) : D Tryz.prog X (.callH 40 [.agg (TSpace.lit a0)] [] (.agg (TWeight.lit r)) []) := by obtain ⟨n, h⟩ := h; exact weight_one.ND n h
def cost_Sum.b1 (a0 : Int) (a1 : List Int) : (Int × Int) → Rnd ((Int × Int)) Int (Int × Int) → Prop := fun (x1, x2) z1 => if x2 < (a1.length : Int) then (((InR x2 a1.length)) ∧ if (rdl a1 x2) = (-1) then (z1 = .ret ((-1), 0)) else (z1 = .next ((if a0 < (IntKind.i64.wrap (x1 + (rdl a1 x2))) then a0 else (IntKind.i64.wrap (x1 + (rdl a1 x2)))), (IntKind.i64.wrap (x2 + 1))))) else (z1 = .exit x1)
def cost_Sum.f (a0 : Int) (a1 : List Int) (r : Int × Int) : Prop :=
  ∃ t2_2 : Int, (cost_checks.f a0 a1 t2_2) ∧ if t2_2 = 0 then (∃ o1 : Fin Int (Int × Int), Loop (cost_Sum.b1 a0 a1) (0, 0) o1 ∧ o1.on (fun x3 => r = (x3, 0)) (fun r_ => r = r_)) else (r = (0, t2_2))
theorem cost_Sum.D {a0 a1 r} (h : cost_Sum.f a0 a1 r) : D Tryz.prog X (.callH 81 [.val (.int .i64 a0), .rows (a1.map (cInt .i64))] [] (.tuple [.val (.int .i64 r.1), .val (.int .i64 r.2)]) []) := by
  unfold cost_Sum.f at h
  refine .enter 31 0 fn81 rfl rfl rfl <| .seq <| .reg0 rfl (.op 0 rfl (asV rfl) <| .op 0 rfl (asV rfl) <| .nil0) <| .seq <| .seq ?_
  obtain ⟨t2_2, g2_2, h⟩ := h
  refine .reg0 rfl (.m rfl <| .o (mvR rfl) <| .c rfl go88 rfl rfl rfl (cost_checks.D g2_2) <| .a rfl <| .nil0) <| .seq <| .reg0 rfl (.op 0 rfl (mvV rfl) <| .op 0 rfl (neI rfl rfl) <| .nil0) ?_
  by_cases c1 : t2_2 = 0
  · rw [if_pos c1] at h
    refine .condF rfl (nf c1) <| .skip <| .seq <| .reg0 rfl (.op 0 rfl (asV rfl) <| .nil0) <| .seq <| .seq <| .reg0 rfl (.op 0 rfl (mvR rfl) <| .op 0 rfl (lnR (l := a1) sl152 rfl) <| .op 0 rfl (mvV rfl) <| .nil0) <| .block <| .keepL [] [(0, i6 a0), (7, i6 0), (16, .rows (a1.map (cInt .i64))), (17, i6 (a1.length : Int)), (18, i6 0)] [] (by decide) (by decide) ⟨.free rfl rfl, .free rfl rfl, .free rfl rfl, .free rfl rfl, .free rfl rfl, trivial⟩ trivial ?_
    obtain ⟨o1, hL1, h⟩ := h
    refine .loopB (cost_Sum.b1 a0 a1) (fun (x1, x2) => listEnv [(0, i6 a0), (7, i6 x1), (16, .rows (a1.map (cInt .i64))), (17, i6 (a1.length : Int)), (18, i6 x2)]) (fun (x1, x2) => []) (fun x3 => listEnv [(7, i6 x3)]) (fun x3 => []) hL1 (fun r_ => r = r_) ?_ ?_ ?_
    · rintro x3 rfl
      try dsimp only [Fin.on] at h
      refine .seq <| .reg0 rfl (.op 0 rfl (mvV rfl) <| .op 0 rfl (asV rfl) <| .op 0 rfl (asV rfl) <| .nil0) ?_
      replace h := h.symm
      subst h
      refine .kf [(4, i6 x3), (5, i6 0)] rfl rfl ?_
      exact .ret rfl
    · rintro r_ rfl
      exact h
    · rintro ⟨x1, x2⟩ z1 h hn1 hx1 hr1
      dsimp only [cost_Sum.b1] at h
      refine .seq <| .reg0 rfl (.op 0 rfl (ltI rfl rfl) <| .nil0) <| .seq ?_
      by_cases c6 : x2 < (a1.length : Int)
      · rw [if_pos c6] at h
        refine .condT rfl (dt c6) <| .skip <| .seq <| .block <| .seq ?_
        obtain ⟨g19_0, h⟩ := h
        refine .reg0 rfl (.o (ixR (l := a1) (lit := (cInt .i64)) sl152 rfl rfl (fun _ => rfl) g19_0.1 g19_0.2) <| .o (ldC rfl sz3 ag3 rfl) <| .a rfl <| .nil0) <| .seq <| .seq <| .reg0 rfl (.op 0 rfl (mvV rfl) <| .op 0 rfl (eqI rfl rfl) <| .nil0) ?_
        by_cases c7 : (rdl a1 x2) = (-1)
        · rw [if_pos c7] at h
          refine .condT rfl (bt c7) <| .seq <| .reg0 rfl (.op 0 rfl (asV rfl) <| .op 0 rfl (asV rfl) <| .nil0) ?_
          have q3 := hr1 _ h
          replace q3 := q3.symm
          subst q3
          refine .kf [(4, i6 (-1)), (5, i6 0)] rfl rfl ?_
          exact .ret rfl
        · rw [if_neg c7] at h
          refine .condF rfl (bn c7) <| .skip <| .reg0 rfl (.op 0 rfl (mvV rfl) <| .op 0 rfl (mvV rfl) <| .op 0 rfl (addI rfl rfl) <| .op 0 rfl (mvV rfl) <| .op 0 rfl (minI rfl rfl) <| .op 0 rfl (asV rfl) <| .nil0) <| .inBlock <| .reg0 rfl (.op 0 rfl (addI rfl rfl) <| .op 0 rfl (mvV rfl) <| .nil0) <| .kf [(0, i6 a0), (7, i6 (if a0 < (IntKind.i64.wrap (x1 + (rdl a1 x2))) then a0 else (IntKind.i64.wrap (x1 + (rdl a1 x2))))), (16, .rows (a1.map (cInt .i64))), (17, i6 (a1.length : Int)), (18, i6 (IntKind.i64.wrap (x2 + 1)))] rfl rfl ?_
          exact hn1 _ h
      · rw [if_neg c6] at h
        refine .condF rfl (df c6) <| .exit rfl <| .keepL [] [(7, i6 x1)] [] (by decide) (by decide) ⟨.free rfl rfl, trivial⟩ trivial ?_
        exact hx1 _ h
  · rw [if_neg c1] at h
    refine .condT rfl (nt c1) <| .seq <| .reg0 rfl (.op 0 rfl (mvV rfl) <| .op 0 rfl (asV rfl) <| .op 0 rfl (asV rfl) <| .nil0) ?_
    replace h := h.symm
    subst h
    refine .kf [(4, i6 0), (5, i6 t2_2)] rfl rfl ?_
    exact .ret rfl
def facts_makes.f (a0 : TFacts) (a1 : Int) (r : Int) : Prop := MakesOk a0.Gen a0.Rows a1 ∧ r = makesI a0.Gen a0.Rows a1
theorem facts_makes.D {a0 a1 r} (h : facts_makes.f a0 a1 r) : D Tryz.prog X (.callH 128 [.agg (TFacts.lit a0), .val (.int .u64 a1)] [] (.val (.int .u64 r)) []) := .ext (x_makes h)
def facts_Extend.b1 (a0 : Int) (a1 : TFacts) (a2 : TFacts) : ((List Int) × Int) → Rnd (((List Int) × Int)) ((List Int)) (TFacts × Int) → Prop := fun (x1, x2) z1 => if x2 < ((List.replicate (Int.toNat a0) (0 : Int)).length : Int) then (((InR x2 a1.Rows.length)) ∧ ∃ t16_9 : Int, (facts_makes.f a2 (rdl a1.Rows x2) t16_9) ∧ ((InR x2 x1.length)) ∧ z1 = .next ((setl x1 x2 t16_9), (IntKind.i64.wrap (x2 + 1)))) else (z1 = .exit x1)
def facts_Extend.f (a0 : Int) (a1 : TFacts) (a2 : TFacts) (r : TFacts × Int) : Prop :=
  ∃ t2_4 : Int, (facts_checked.f a0 [a1, a2] t2_4) ∧ if t2_4 = 0 then (∃ t4_3 : Int, (facts_makes.f a2 a1.Gen t4_3) ∧ (((0 : Int) ≤ a0 ∧ Fits a0 8)) ∧ ∃ o1 : Fin ((List Int)) (TFacts × Int), Loop (facts_Extend.b1 a0 a1 a2) ((List.replicate (Int.toNat a0) (0 : Int)), 0) o1 ∧ o1.on (fun x3 => ∃ t18_1 : TFacts, (facts_canon.f (TFacts.mk t4_3 x3) t18_1) ∧ r = (t18_1, 0)) (fun r_ => r = r_)) else (r = ((TFacts.mk 0 []), t2_4))
theorem facts_Extend.D {a0 a1 a2 r} (h : facts_Extend.f a0 a1 a2 r) : D Tryz.prog X (.callH 82 [.val (.int .i64 a0), .agg (TFacts.lit a1), .agg (TFacts.lit a2)] [] (.tuple [.agg (TFacts.lit r.1), .val (.int .i64 r.2)]) []) := by
  unfold facts_Extend.f at h
  refine .enter 47 0 fn82 rfl rfl rfl <| .seq <| .room 0 <| .room 0 <| .room 0 <| .reg0 rfl (.op 0 rfl (bxP (s := 2) (cs := (TFacts.lit a1)) rfl ⟨rfl, by decide, rfl⟩ rfl) <| .op 1 rfl (bxP (s := 2) (cs := (TFacts.lit a2)) rfl ⟨rfl, by decide, rfl⟩ rfl) <| .op 2 rfl (alP (s := 2) ze29 ⟨rfl, by decide, rfl⟩ rfl) <| .op 0 rfl (asV rfl) <| .nil0) <| .seq <| .seq ?_
  obtain ⟨t2_4, g2_4, h⟩ := h
  refine .room 0 <| .reg0 rfl (.op 0 rfl (mvV rfl) <| .op 0 rfl (ldG rfl sz29 ag29 rfl) <| .op 0 rfl (ldG rfl sz29 ag29 rfl) <| .op 3 rfl (bldL (s := 2) (cs := [u6 a1.Gen, .rows (a1.Rows.map (cInt .u64)), u6 a2.Gen, .rows (a2.Rows.map (cInt .u64))]) un178 sz29 ze29 ⟨by decide, rfl, by decide⟩ rfl rfl rfl rfl) <| .callI rfl (callee_of rfl go122 rfl) (.lendC (args' := [i6 a0, .rows ([a1, a2].map TFacts.cells)])  [3] false (.cons (.free rfl rfl) <| .cons (cFixO (l := [a1, a2]) sl178 rfl rfl rfl rfl) <| .nil) (by decide) rfl rfl rfl rfl (facts_checked.D g2_4)) <| .op 0 rfl (asV rfl) <| .nil0) ?_
  refine .seq <| .reg0 rfl (.op 0 rfl (mvV rfl) <| .op 0 rfl (neI rfl rfl) <| .nil0) ?_
  by_cases c1 : t2_4 = 0
  · rw [if_pos c1] at h
    refine .condF rfl (nf c1) <| .skip <| .seq ?_
    obtain ⟨t4_3, g4_3, h⟩ := h
    obtain ⟨g4_5, h⟩ := h
    refine .room 0 <| .room 0 ?_
    refine .reg1 (e1 := listEnv [(4, .ptr 0 1 2 0 0), (5, .ptr 1 1 2 0 0), (6, .ptr 2 1 2 0 0), (9, .ptr 5 1 2 0 0)]) (H1 := [⟨2, [(TFacts.lit a1)], 0, none⟩, ⟨2, [(TFacts.lit a2)], 0, none⟩, ⟨2, [[u6 0, nul]], 0, none⟩, ⟨2, [a1, a2].map TFacts.cells, 0, none⟩, ⟨1, (List.replicate (Int.toNat a0) (0 : Int)).map (cInt .u64), 0, none⟩, ⟨2, [[u6 t4_3, .own 4 ((List.replicate (Int.toNat a0) (0 : Int)).length)]], 0, none⟩]) rfl ?_ ?_
    · exact .drawM [(7, 9, .ptr 5 1 2 0 0), (6, 26, .agg [u6 t4_3, .own 4 ((List.replicate (Int.toNat a0) (0 : Int)).length)]), (5, 25, .own 4 ((List.replicate (Int.toNat a0) (0 : Int)).length)), (4, 24, i6 a0), (3, 23, u6 t4_3), (2, 22, u6 a1.Gen), (1, 21, .ptr 0 1 2 0 0), (0, 20, .agg (TFacts.lit a2))] [(8, 5, ⟨2, [[u6 t4_3, .own 4 ((List.replicate (Int.toNat a0) (0 : Int)).length)]], 0, none⟩), (7, 5, ⟨2, [[u6 0, nul]], 0, none⟩), (5, 4, ⟨1, (List.replicate (Int.toNat a0) (0 : Int)).map (cInt .u64), 0, none⟩)] [[], [], [1], [0, 2, 1], [], [4], [3, 0, 2, 1, 5, 4], [], [7, 6, 3, 0, 2, 1, 5, 4]] (by rfl) (by rfl) (by rfl) (by exact ⟨oP (fun _ => ldG rfl sz29 ag29 rfl) rfl, oP (fun _ => faP fa29_0 rfl) rfl, oP (fun _ => ldP rfl sz26 ag26 rfl) rfl, fun S hS hD hn => .oneI hS hD hn rfl rfl (callee_of rfl go128 rfl) (.pure rfl rfl (facts_makes.D g4_3)) rfl rfl rfl, oP (fun _ => mvV rfl) rfl, oW 4 (fun _ => mkS (z0 := (0 : Int)) sl27 un27 ze26 rfl rfl g4_5.1 g4_5.2 rfl) rfl fun _ => rfl, oP (fun _ => bldS (cs := [u6 t4_3, .own 4 ((List.replicate (Int.toNat a0) (0 : Int)).length)]) ze29 pl29 rfl rfl) rfl, oW 5 (fun _ => alP (s := 2) ze29 ⟨rfl, by decide, rfl⟩ rfl) rfl fun _ => rfl, fun S hS hD hn => .one0 0 rfl rfl (stB (cs0 := [u6 0, nul]) (cs := [u6 t4_3, .own 4 ((List.replicate (Int.toNat a0) (0 : Int)).length)]) (cs1 := [u6 t4_3, .own 4 ((List.replicate (Int.toNat a0) (0 : Int)).length)]) rfl rfl sz29 rfl ⟨Nat.le_of_ble_eq_true rfl, rfl⟩ rfl) (drawE_other _ _ _ _ rfl) rfl, trivial⟩) _ (by exact ⟨.ptr rfl, .ptr rfl, .ptr rfl, .ptr rfl, trivial⟩) (by rfl)
    refine .seq <| .seq <| .reg0 rfl (.op 0 rfl (faP fa29_1 rfl) <| .op 0 rfl (ldP rfl sz27 ag27 rfl) <| .op 0 rfl (lnO (l := (List.replicate (Int.toNat a0) (0 : Int))) sl27 rfl rfl rfl) <| .op 0 rfl (mvV rfl) <| .nil0) <| .block <| .keepL [0, 1, 2, 5, 4] [(4, .ptr 0 1 2 0 0), (5, .ptr 1 1 2 0 0), (6, .ptr 2 1 2 0 0), (9, .ptr 3 1 2 0 0), (29, i6 ((List.replicate (Int.toNat a0) (0 : Int)).length : Int)), (30, i6 0)] [⟨2, [(TFacts.lit a1)], 0, none⟩, ⟨2, [(TFacts.lit a2)], 0, none⟩, ⟨2, [[u6 0, nul]], 0, none⟩, ⟨2, [[u6 t4_3, .own 4 ((List.replicate (Int.toNat a0) (0 : Int)).length)]], 0, none⟩, ⟨1, (List.replicate (Int.toNat a0) (0 : Int)).map (cInt .u64), 0, none⟩] (by decide) (by decide) ⟨.ptr rfl, .ptr rfl, .ptr rfl, .ptr rfl, .free rfl rfl, .free rfl rfl, trivial⟩ ⟨⟨_, rfl, bcBox (all2_free rfl)⟩, ⟨_, rfl, bcBox (all2_free rfl)⟩, ⟨_, rfl, bcBox (all2_free rfl)⟩, ⟨_, rfl, bcBox (.cons (.free rfl rfl) <| .cons (.own rfl) <| .nil)⟩, ⟨_, rfl, bcRow (l := (List.replicate (Int.toNat a0) (0 : Int))) sl27 (Nat.le_refl _) rfl⟩, trivial⟩ ?_
    obtain ⟨o1, hL1, h⟩ := h
    refine .loopB (facts_Extend.b1 a0 a1 a2) (fun (x1, x2) => listEnv [(4, .ptr 0 1 2 0 0), (5, .ptr 1 1 2 0 0), (6, .ptr 2 1 2 0 0), (9, .ptr 3 1 2 0 0), (29, i6 ((List.replicate (Int.toNat a0) (0 : Int)).length : Int)), (30, i6 x2)]) (fun (x1, x2) => [⟨2, [(TFacts.lit a1)], 0, none⟩, ⟨2, [(TFacts.lit a2)], 0, none⟩, ⟨2, [[u6 0, nul]], 0, none⟩, ⟨2, [[u6 t4_3, .own 4 x1.length]], 0, none⟩, ⟨1, x1.map (cInt .u64), 0, none⟩]) (fun x3 => listEnv [(6, .ptr 0 1 2 0 0), (9, .ptr 1 1 2 0 0)]) (fun x3 => [⟨2, [[u6 0, nul]], 0, none⟩, ⟨2, [[u6 t4_3, .own 2 x3.length]], 0, none⟩, ⟨1, x3.map (cInt .u64), 0, none⟩]) hL1 (fun r_ => r = r_) ?_ ?_ ?_
    · rintro x3 rfl
      try dsimp only [Fin.on] at h
      refine .seq ?_
      obtain ⟨t18_1, g18_1, h⟩ := h
      refine .reg0 rfl (.o (ldG rfl sz29 ag29 rfl) <| .callI rfl (callee_of rfl go123 rfl) (.lendC (args' := [.agg [u6 t4_3, .rows (x3.map (cInt .u64))]])  [2] true (.cons (cAgg (.cons (.free rfl rfl) <| .cons (cFixO (l := x3) sl27 rfl rfl rfl rfl) <| .nil)) <| .nil) (by decide) rfl rfl rfl rfl (facts_canon.D g18_1)) <| .o (stB (cs0 := [u6 0, nul]) (cs := (TFacts.lit t18_1)) (cs1 := (TFacts.lit t18_1)) rfl rfl sz29 rfl ⟨Nat.le_of_ble_eq_true rfl, rfl⟩ rfl) <| .a rfl <| .nil0) ?_
      replace h := h.symm
      subst h
      refine .k [(6, .cptr (TFacts.lit t18_1) 0), (7, i6 0)] ⟨cFixP rfl rfl (.cons (.free rfl rfl) <| .cons (.free rfl rfl) <| .nil), .free rfl rfl, trivial⟩ ?_
      exact .ret rfl
    · rintro r_ rfl
      exact h
    · rintro ⟨x1, x2⟩ z1 h hn1 hx1 hr1
      dsimp only [facts_Extend.b1] at h
      refine .seq <| .reg0 rfl (.op 0 rfl (ltI rfl rfl) <| .nil0) <| .seq ?_
      by_cases c4 : x2 < ((List.replicate (Int.toNat a0) (0 : Int)).length : Int)
      · rw [if_pos c4] at h
        refine .condT rfl (dt c4) <| .skip <| .seq <| .block <| .seq <| .reg0 rfl (.op 0 rfl (mvV rfl) <| .op 0 rfl (asV rfl) <| .nil0) ?_
        obtain ⟨g16_7, h⟩ := h
        obtain ⟨t16_9, g16_9, h⟩ := h
        obtain ⟨g16_10, h⟩ := h
        refine .reg1 (e1 := listEnv [(4, .ptr 0 1 2 0 0), (5, .ptr 1 1 2 0 0), (6, .ptr 2 1 2 0 0), (9, .ptr 3 1 2 0 0), (29, i6 ((List.replicate (Int.toNat a0) (0 : Int)).length : Int)), (30, i6 x2)]) (H1 := [⟨2, [(TFacts.lit a1)], 0, none⟩, ⟨2, [(TFacts.lit a2)], 0, none⟩, ⟨2, [[u6 0, nul]], 0, none⟩, ⟨2, [[u6 t4_3, .own 4 x1.length]], 0, none⟩, ⟨1, (setl x1 x2 t16_9).map (cInt .u64), 0, none⟩]) rfl ?_ ?_
        · exact .drawM [(10, 43, .ptr 4 x1.length 1 (Int.toNat x2) 0), (9, 42, u6 t16_9), (8, 41, u6 (rdl a1.Rows x2)), (7, 40, .cptr ((cInt .u64) (rdl a1.Rows x2)) 0), (6, 39, i6 x2), (5, 38, .rows (a1.Rows.map (cInt .u64))), (4, 37, .ptr 0 1 2 0 1), (3, 36, .agg (TFacts.lit a2)), (2, 35, i6 x2), (1, 34, .own 4 x1.length), (0, 33, .ptr 3 1 2 0 1)] [(11, 4, ⟨1, (setl x1 x2 t16_9).map (cInt .u64), 0, none⟩)] [[], [0], [], [], [], [4], [], [5, 4, 6], [7, 5, 4, 6], [3, 8, 7, 5, 4, 6], [1, 0, 2, 3, 4, 5, 6, 7, 8, 9], [10, 1, 0, 2, 3, 4, 5, 6, 7, 8, 9]] (by rfl) (by rfl) (by rfl) (by exact ⟨oP (fun _ => faP fa29_1 rfl) rfl, oP (fun _ => ldP rfl sz27 ag27 rfl) rfl, oP (fun _ => mvV rfl) rfl, oP (fun _ => ldG rfl sz29 ag29 rfl) rfl, oP (fun _ => faP fa29_1 rfl) rfl, oP (fun _ => ldP rfl sz27 ag27 rfl) rfl, oP (fun _ => mvV rfl) rfl, oP (fun _ => ixR (l := a1.Rows) (lit := (cInt .u64)) sl27 rfl rfl (fun _ => rfl) g16_7.1 g16_7.2) rfl, oP (fun _ => ldC rfl sz26 ag26 rfl) rfl, fun S hS hD hn => .oneI hS hD hn rfl rfl (callee_of rfl go128 rfl) (.pure rfl rfl (facts_makes.D g16_9)) rfl rfl rfl, oP (fun _ => ixO (l := x1) sl27 rfl rfl rfl rfl g16_10.1 g16_10.2) rfl, fun S hS hD hn => .one0 0 rfl rfl (stO (l := x1) (j := x2) (cs := [u6 t16_9]) t16_9 sl27 rfl rfl sz26 rfl rfl g16_10.1 g16_10.2 (Nat.zero_le _) ⟨Nat.le_of_ble_eq_true rfl, rfl⟩ rfl) (drawE_other _ _ _ _ rfl) rfl, trivial⟩) _ (by exact ⟨.ptr rfl, .ptr rfl, .ptr rfl, .ptr rfl, .free rfl rfl, .free rfl rfl, trivial⟩) (by rfl)
        refine .inBlock <| .reg0 rfl (.op 0 rfl (addI rfl rfl) <| .op 0 rfl (mvV rfl) <| .nil0) <| .keepL [0, 1, 2, 3, 4] [(4, .ptr 0 1 2 0 0), (5, .ptr 1 1 2 0 0), (6, .ptr 2 1 2 0 0), (9, .ptr 3 1 2 0 0), (29, i6 ((List.replicate (Int.toNat a0) (0 : Int)).length : Int)), (30, i6 (IntKind.i64.wrap (x2 + 1)))] [⟨2, [(TFacts.lit a1)], 0, none⟩, ⟨2, [(TFacts.lit a2)], 0, none⟩, ⟨2, [[u6 0, nul]], 0, none⟩, ⟨2, [[u6 t4_3, .own 4 ((setl x1 x2 t16_9).length)]], 0, none⟩, ⟨1, (setl x1 x2 t16_9).map (cInt .u64), 0, none⟩] (by decide) (by decide) ⟨.ptr rfl, .ptr rfl, .ptr rfl, .ptr rfl, .free rfl rfl, .free rfl rfl, trivial⟩ ⟨⟨_, rfl, bcBox (all2_free rfl)⟩, ⟨_, rfl, bcBox (all2_free rfl)⟩, ⟨_, rfl, bcBox (all2_free rfl)⟩, ⟨_, rfl, bcBox (.cons (.free rfl rfl) <| .cons (cOwnE rfl (by simp only [setl, List.length_set])) <| .nil)⟩, ⟨_, rfl, bcRow (l := (setl x1 x2 t16_9)) sl27 (Nat.le_refl _) rfl⟩, trivial⟩ ?_
        exact hn1 _ h
      · rw [if_neg c4] at h
        refine .condF rfl (df c4) <| .exit rfl <| .keepL [2, 3, 4] [(6, .ptr 0 1 2 0 0), (9, .ptr 1 1 2 0 0)] [⟨2, [[u6 0, nul]], 0, none⟩, ⟨2, [[u6 t4_3, .own 2 x1.length]], 0, none⟩, ⟨1, x1.map (cInt .u64), 0, none⟩] (by decide) (by decide) ⟨.ptr rfl, .ptr rfl, trivial⟩ ⟨⟨_, rfl, bcBox (all2_free rfl)⟩, ⟨_, rfl, bcBox (.cons (.free rfl rfl) <| .cons (.own rfl) <| .nil)⟩, ⟨_, rfl, bcRow (l := x1) sl27 (Nat.le_refl _) rfl⟩, trivial⟩ ?_
        exact hx1 _ h
  · rw [if_neg c1] at h
    refine .condT rfl (nt c1) <| .seq <| .reg0 rfl (.op 0 rfl (bldS (cs := [u6 0, nul]) ze29 pl29 rfl rfl) <| .op 0 rfl (mvV rfl) <| .op 0 rfl (stB (cs0 := [u6 0, nul]) (cs := [u6 0, nul]) (cs1 := [u6 0, nul]) rfl rfl sz29 rfl ⟨Nat.le_of_ble_eq_true rfl, rfl⟩ rfl) <| .op 0 rfl (asV rfl) <| .nil0) ?_
    replace h := h.symm
    subst h
    refine .k [(6, .cptr [u6 0, .rows (([] : List Int).map (cInt .u64))] 0), (7, i6 t2_4)] ⟨cFixP rfl rfl (.cons (.free rfl rfl) <| .cons (.nil) <| .nil), .free rfl rfl, trivial⟩ ?_
    exact .ret rfl
def cells_Then.j1 (x52 : Int) : (Int × Int × Int) → (Rnd ((Int × Int × Int × Int)) ((Int × Int × Int)) ((List TCell) × Int)) → Prop := fun (x65, x66, x67) z2 => z2 = .next (x65, x66, x67, (IntKind.i64.wrap (x52 + 1)))
def cells_Then.b2 (a0 : Int) (a1 : List TCell) (a2 : List TCell) (x22 : Int) : (Int × Int × Int × Int) → Rnd ((Int × Int × Int × Int)) ((Int × Int × Int)) ((List TCell) × Int) → Prop := fun (x49, x50, x51, x52) z2 => if x52 < a0 then ((((0 : Int) ≤ x52)) ∧ if (bitOp .and .u64 (shrI .u64 ((rdl a2 x22).From) x52) 1) = 1 then (((InR x52 a1.length)) ∧ ∃ t91_5 : TCell, (cells_both.f (TCell.mk x49 x50 x51) (rdl a1 x52) t91_5) ∧ cells_Then.j1 x52 (t91_5.From, t91_5.Kind, t91_5.K) z2) else (cells_Then.j1 x52 (x49, x50, x51) z2)) else (z2 = .exit (x49, x50, x51))
def cells_Then.b1 (a0 : Int) (a1 : List TCell) (a2 : List TCell) : ((List TCell) × Int) → Rnd (((List TCell) × Int)) ((List TCell)) ((List TCell) × Int) → Prop := fun (x21, x22) z1 => if x22 < (a2.length : Int) then (((InR x22 a2.length)) ∧ ∃ o2 : Fin ((Int × Int × Int)) ((List TCell) × Int), Loop (cells_Then.b2 a0 a1 a2 x22) (0, (rdl a2 x22).Kind, (rdl a2 x22).K, 0) o2 ∧ o2.on (fun (x59, x60, x61) => ((Fits (x21.length + 1) 24)) ∧ z1 = .next ((x21 ++ [(TCell.mk x59 x60 x61)]), (IntKind.i64.wrap (x22 + 1)))) (fun r_ => z1 = .ret r_)) else (z1 = .exit x21)
def cells_Then.f (a0 : Int) (a1 : List TCell) (a2 : List TCell) (r : (List TCell) × Int) : Prop :=
  ∃ t2_3 : Int, (cells_two.f a0 a1 a2 t2_3) ∧ if t2_3 = 0 then (∃ o1 : Fin ((List TCell)) ((List TCell) × Int), Loop (cells_Then.b1 a0 a1 a2) ([], 0) o1 ∧ o1.on (fun x42 => r = (x42, 0)) (fun r_ => r = r_)) else (r = ([], t2_3))
theorem cells_Then.D {a0 a1 a2 r} (h : cells_Then.f a0 a1 a2 r) : D Tryz.prog X (.callH 83 [.val (.int .i64 a0), .rows (a1.map TCell.cells), .rows (a2.map TCell.cells)] [] (.tuple [.rows (r.1.map TCell.cells), .val (.int .i64 r.2)]) []) := by
  unfold cells_Then.f at h
  refine .enter 55 0 fn83 rfl rfl rfl <| .seq <| .reg0 rfl (.op 0 rfl (asV rfl) <| .op 0 rfl (asV rfl) <| .nil0) <| .seq <| .seq ?_
  obtain ⟨t2_3, g2_3, h⟩ := h
  refine .reg0 rfl (.m rfl <| .o (mvR rfl) <| .o (mvR rfl) <| .c rfl go124 rfl rfl rfl (cells_two.D g2_3) <| .a rfl <| .nil0) <| .seq <| .reg0 rfl (.op 0 rfl (mvV rfl) <| .op 0 rfl (neI rfl rfl) <| .nil0) ?_
  by_cases c1 : t2_3 = 0
  · rw [if_pos c1] at h
    refine .condF rfl (nf c1) <| .skip <| .seq <| .reg0 rfl (.op 0 rfl (asV rfl) <| .nil0) <| .seq <| .seq <| .reg0 rfl (.op 0 rfl (mvR rfl) <| .op 0 rfl (lnR (l := a2) sl30 rfl) <| .op 0 rfl (mvV rfl) <| .nil0) <| .block <| .room 3 <| .keepL [0] [(0, i6 a0), (1, .rows (a1.map TCell.cells)), (9, .own 0 0), (21, .rows (a2.map TCell.cells)), (22, i6 (a2.length : Int)), (23, i6 0)] [⟨3, [].map TCell.cells, 0, none⟩] (by decide) (by decide) ⟨.free rfl rfl, .free rfl rfl, .nilOwn, .free rfl rfl, .free rfl rfl, .free rfl rfl, trivial⟩ ⟨⟨_, rfl, (bcRow (l := []) sl30 (Nat.le_refl _) rfl)⟩, trivial⟩ ?_
    obtain ⟨o1, hL1, h⟩ := h
    refine .loopB (cells_Then.b1 a0 a1 a2) (fun (x21, x22) => listEnv [(0, i6 a0), (1, .rows (a1.map TCell.cells)), (9, .own 0 x21.length), (21, .rows (a2.map TCell.cells)), (22, i6 (a2.length : Int)), (23, i6 x22)]) (fun (x21, x22) => [⟨3, x21.map TCell.cells, 0, none⟩]) (fun x42 => listEnv [(9, .own 0 x42.length)]) (fun x42 => [⟨3, x42.map TCell.cells, 0, none⟩]) hL1 (fun r_ => r = r_) ?_ ?_ ?_
    · rintro x42 rfl
      try dsimp only [Fin.on] at h
      refine .seq <| .reg0 rfl (.op 0 rfl (mvO rfl) <| .op 0 rfl (asO rfl) <| .op 0 rfl (asV rfl) <| .nil0) ?_
      replace h := h.symm
      subst h
      refine .k [(6, .rows (x42.map TCell.cells)), (7, i6 0)] ⟨cFixO (l := x42) sl30 rfl rfl rfl rfl, .free rfl rfl, trivial⟩ ?_
      exact .ret rfl
    · rintro r_ rfl
      exact h
    · rintro ⟨x21, x22⟩ z1 h hn1 hx1 hr1
      dsimp only [cells_Then.b1] at h
      refine .seq <| .reg0 rfl (.op 0 rfl (ltI rfl rfl) <| .nil0) <| .seq ?_
      by_cases c24 : x22 < (a2.length : Int)
      · rw [if_pos c24] at h
        refine .condT rfl (dt c24) <| .skip <| .seq <| .block <| .seq ?_
        obtain ⟨g59_0, h⟩ := h
        refine .room 0 <| .reg0 rfl (.op 0 rfl (ixR (l := a2) (lit := TCell.lit) sl30 rfl rfl (fun _ => rfl) g59_0.1 g59_0.2) <| .op 0 rfl (ldCG rfl sz74 ag74 rfl) <| .op 1 rfl (alP (s := 3) ze74 ⟨rfl, by decide, rfl⟩ rfl) <| .op 0 rfl (stB (cs0 := [u6 0, i6 0, i6 0]) (cs := (TCell.lit (rdl a2 x22))) (cs1 := (TCell.lit (rdl a2 x22))) rfl rfl sz74 rfl ⟨Nat.le_of_ble_eq_true rfl, rfl⟩ rfl) <| .nil0) ?_
        refine .seq <| .room 0 <| .reg0 rfl (.op 0 rfl (faP fa74_1 rfl) <| .op 0 rfl (ldP rfl sz72 ag72 rfl) <| .op 0 rfl (faP fa74_2 rfl) <| .op 0 rfl (ldP rfl sz2 ag2 rfl) <| .op 0 rfl (bldS (cs := [u6 0, i6 ((rdl a2 x22).Kind), i6 ((rdl a2 x22).K)]) ze74 pl74 rfl rfl) <| .op 2 rfl (alP (s := 3) ze74 ⟨rfl, by decide, rfl⟩ rfl) <| .op 0 rfl (stB (cs0 := [u6 0, i6 0, i6 0]) (cs := [u6 0, i6 ((rdl a2 x22).Kind), i6 ((rdl a2 x22).K)]) (cs1 := [u6 0, i6 ((rdl a2 x22).Kind), i6 ((rdl a2 x22).K)]) rfl rfl sz74 rfl ⟨Nat.le_of_ble_eq_true rfl, rfl⟩ rfl) <| .nil0) ?_
        refine .seq <| .seq <| .reg0 rfl (.op 0 rfl (mvV rfl) <| .op 0 rfl (mvV rfl) <| .nil0) <| .block <| .keepL [0, 1, 2] [(0, i6 a0), (1, .rows (a1.map TCell.cells)), (9, .own 0 x21.length), (11, .ptr 1 1 3 0 0), (12, .ptr 2 1 3 0 0), (21, .rows (a2.map TCell.cells)), (22, i6 (a2.length : Int)), (23, i6 x22), (32, i6 a0), (33, i6 0)] [⟨3, x21.map TCell.cells, 0, none⟩, ⟨3, [(TCell.lit (rdl a2 x22))], 0, none⟩, ⟨3, [[u6 0, i6 ((rdl a2 x22).Kind), i6 ((rdl a2 x22).K)]], 0, none⟩] (by decide) (by decide) ⟨.free rfl rfl, .free rfl rfl, .own rfl, .ptr rfl, .ptr rfl, .free rfl rfl, .free rfl rfl, .free rfl rfl, .free rfl rfl, .free rfl rfl, trivial⟩ ⟨⟨_, rfl, bcRow (l := x21) sl30 (Nat.le_refl _) rfl⟩, ⟨_, rfl, bcBox (all2_free rfl)⟩, ⟨_, rfl, bcBox (all2_free rfl)⟩, trivial⟩ ?_
        obtain ⟨o2, hL2, h⟩ := h
        refine .loopB (cells_Then.b2 a0 a1 a2 x22) (fun (x49, x50, x51, x52) => listEnv [(0, i6 a0), (1, .rows (a1.map TCell.cells)), (9, .own 0 x21.length), (11, .ptr 1 1 3 0 0), (12, .ptr 2 1 3 0 0), (21, .rows (a2.map TCell.cells)), (22, i6 (a2.length : Int)), (23, i6 x22), (32, i6 a0), (33, i6 x52)]) (fun (x49, x50, x51, x52) => [⟨3, x21.map TCell.cells, 0, none⟩, ⟨3, [(TCell.lit (rdl a2 x22))], 0, none⟩, ⟨3, [[u6 x49, i6 x50, i6 x51]], 0, none⟩]) (fun (x59, x60, x61) => listEnv [(0, i6 a0), (1, .rows (a1.map TCell.cells)), (9, .own 0 x21.length), (12, .ptr 1 1 3 0 0), (21, .rows (a2.map TCell.cells)), (22, i6 (a2.length : Int)), (23, i6 x22)]) (fun (x59, x60, x61) => [⟨3, x21.map TCell.cells, 0, none⟩, ⟨3, [[u6 x59, i6 x60, i6 x61]], 0, none⟩]) hL2 (fun r_ => z1 = .ret r_) ?_ ?_ ?_
        · rintro ⟨x59, x60, x61⟩ rfl
          try dsimp only [Fin.on] at h
          obtain ⟨g92_3, h⟩ := h
          refine .room 0 <| .room 0 <| .reg0 rfl (.op 0 rfl (mvO rfl) <| .op 0 rfl (ldG rfl sz74 ag74 rfl) <| .op 2 rfl (bldL (s := 3) (cs := [u6 x59, i6 x60, i6 x61]) un30 sz74 ze74 ⟨by decide, rfl, by decide⟩ rfl rfl rfl rfl) <| .op 0 rfl (ap1 (l := x21) (TCell.mk x59 x60 x61) sl30 rfl rfl rfl (Nat.zero_le _) (elems_own (l := [(TCell.mk x59 x60 x61)]) rfl rfl) g92_3) <| .op 0 rfl (asO rfl) <| .nil0) ?_
          refine .inBlock <| .reg0 rfl (.op 0 rfl (addI rfl rfl) <| .op 0 rfl (mvV rfl) <| .nil0) <| .keepL [0] [(0, i6 a0), (1, .rows (a1.map TCell.cells)), (9, .own 0 ((x21 ++ [(TCell.mk x59 x60 x61)]).length)), (21, .rows (a2.map TCell.cells)), (22, i6 (a2.length : Int)), (23, i6 (IntKind.i64.wrap (x22 + 1)))] [⟨3, (x21 ++ [(TCell.mk x59 x60 x61)]).map TCell.cells, 0, none⟩] (by decide) (by decide) ⟨.free rfl rfl, .free rfl rfl, .own rfl, .free rfl rfl, .free rfl rfl, .free rfl rfl, trivial⟩ ⟨⟨_, rfl, bcRow (l := (x21 ++ [(TCell.mk x59 x60 x61)])) sl30 (Nat.le_refl _) rfl⟩, trivial⟩ ?_
          exact hn1 _ h
        · rintro r_ rfl
          exact h
        · rintro ⟨x49, x50, x51, x52⟩ z2 h hn2 hx2 hr2
          dsimp only [cells_Then.b2] at h
          refine .seq <| .reg0 rfl (.op 0 rfl (ltI rfl rfl) <| .nil0) <| .seq ?_
          by_cases c35 : x52 < a0
          · rw [if_pos c35] at h
            refine .condT rfl (dt c35) <| .skip <| .seq <| .block <| .seq <| .reg0 rfl (.op 0 rfl (mvV rfl) <| .op 0 rfl (asV rfl) <| .nil0) <| .seq ?_
            obtain ⟨g88_3, h⟩ := h
            refine .reg0 rfl (.o (faP fa74_0 rfl) <| .o (ldP rfl sz26 ag26 rfl) <| .m rfl <| .o (shr_ rfl rfl g88_3) <| .o (andI rfl rfl) <| .o (eqI rfl rfl) <| .nil0) ?_
            refine .consJ (fun s_ => cells_Then.j1 x52 s_ z2) (fun (x65, x66, x67) => listEnv [(0, i6 a0), (1, .rows (a1.map TCell.cells)), (9, .own 0 x21.length), (11, .ptr 1 1 3 0 0), (12, .ptr 2 1 3 0 0), (21, .rows (a2.map TCell.cells)), (22, i6 (a2.length : Int)), (23, i6 x22), (32, i6 a0), (33, i6 x52)]) (fun (x65, x66, x67) => [⟨3, x21.map TCell.cells, 0, none⟩, ⟨3, [(TCell.lit (rdl a2 x22))], 0, none⟩, ⟨3, [[u6 x65, i6 x66, i6 x67]], 0, none⟩]) ?_ fun hJ1 => ?_
            · rintro ⟨x65, x66, x67⟩ h
              unfold cells_Then.j1 at h
              try dsimp only at h
              refine .inBlock <| .reg0 rfl (.op 0 rfl (addI rfl rfl) <| .op 0 rfl (mvV rfl) <| .nil0) <| .keepL [0, 1, 2] [(0, i6 a0), (1, .rows (a1.map TCell.cells)), (9, .own 0 x21.length), (11, .ptr 1 1 3 0 0), (12, .ptr 2 1 3 0 0), (21, .rows (a2.map TCell.cells)), (22, i6 (a2.length : Int)), (23, i6 x22), (32, i6 a0), (33, i6 (IntKind.i64.wrap (x52 + 1)))] [⟨3, x21.map TCell.cells, 0, none⟩, ⟨3, [(TCell.lit (rdl a2 x22))], 0, none⟩, ⟨3, [[u6 x65, i6 x66, i6 x67]], 0, none⟩] (by decide) (by decide) ⟨.free rfl rfl, .free rfl rfl, .own rfl, .ptr rfl, .ptr rfl, .free rfl rfl, .free rfl rfl, .free rfl rfl, .free rfl rfl, .free rfl rfl, trivial⟩ ⟨⟨_, rfl, bcRow (l := x21) sl30 (Nat.le_refl _) rfl⟩, ⟨_, rfl, bcBox (all2_free rfl)⟩, ⟨_, rfl, bcBox (all2_free rfl)⟩, trivial⟩ ?_
              exact hn2 _ h
            · by_cases c39 : (bitOp .and .u64 (shrI .u64 ((rdl a2 x22).From) x52) 1) = 1
              · rw [if_pos c39] at h
                refine .condT rfl (bt c39) ?_
                obtain ⟨g91_3, h⟩ := h
                obtain ⟨t91_5, g91_5, h⟩ := h
                refine .reg1 (e1 := listEnv [(0, i6 a0), (1, .rows (a1.map TCell.cells)), (9, .own 0 x21.length), (11, .ptr 1 1 3 0 0), (12, .ptr 2 1 3 0 0), (21, .rows (a2.map TCell.cells)), (22, i6 (a2.length : Int)), (23, i6 x22), (32, i6 a0), (33, i6 x52)]) (H1 := [⟨3, x21.map TCell.cells, 0, none⟩, ⟨3, [(TCell.lit (rdl a2 x22))], 0, none⟩, ⟨3, [(TCell.lit t91_5)], 0, none⟩]) rfl ?_ ?_
                · exact .drawM [(5, 47, .agg (TCell.lit t91_5)), (4, 46, .agg (TCell.lit (rdl a1 x52))), (3, 45, .cptr (TCell.lit (rdl a1 x52)) 0), (2, 44, i6 x52), (1, 43, .rows (a1.map TCell.cells)), (0, 42, .agg [u6 x49, i6 x50, i6 x51])] [(6, 2, ⟨3, [(TCell.lit t91_5)], 0, none⟩)] [[], [], [], [1, 2], [3, 1, 2], [0, 4, 3, 1, 2], [5, 0, 4, 3, 1, 2]] (by rfl) (by rfl) (by rfl) (by exact ⟨oP (fun _ => ldG rfl sz74 ag74 rfl) rfl, oP (fun _ => mvR rfl) rfl, oP (fun _ => mvV rfl) rfl, oP (fun _ => ixR (l := a1) (lit := TCell.lit) sl30 rfl rfl (fun _ => rfl) g91_3.1 g91_3.2) rfl, oP (fun _ => ldCG rfl sz74 ag74 rfl) rfl, fun S hS hD hn => .oneI hS hD hn rfl rfl (callee_of rfl go125 rfl) (.pure rfl rfl (cells_both.D g91_5)) rfl rfl rfl, fun S hS hD hn => .one0 0 rfl rfl (stB (cs0 := [u6 x49, i6 x50, i6 x51]) (cs := (TCell.lit t91_5)) (cs1 := (TCell.lit t91_5)) rfl rfl sz74 rfl ⟨Nat.le_of_ble_eq_true rfl, rfl⟩ rfl) (drawE_other _ _ _ _ rfl) rfl, trivial⟩) _ (by exact ⟨.free rfl rfl, .free rfl rfl, .own rfl, .ptr rfl, .ptr rfl, .free rfl rfl, .free rfl rfl, .free rfl rfl, .free rfl rfl, .free rfl rfl, trivial⟩) (by rfl)
                refine .keepL [0, 1, 2] [(0, i6 a0), (1, .rows (a1.map TCell.cells)), (9, .own 0 x21.length), (11, .ptr 1 1 3 0 0), (12, .ptr 2 1 3 0 0), (21, .rows (a2.map TCell.cells)), (22, i6 (a2.length : Int)), (23, i6 x22), (32, i6 a0), (33, i6 x52)] [⟨3, x21.map TCell.cells, 0, none⟩, ⟨3, [(TCell.lit (rdl a2 x22))], 0, none⟩, ⟨3, [(TCell.lit t91_5)], 0, none⟩] (by decide) (by decide) ⟨.free rfl rfl, .free rfl rfl, .own rfl, .ptr rfl, .ptr rfl, .free rfl rfl, .free rfl rfl, .free rfl rfl, .free rfl rfl, .free rfl rfl, trivial⟩ ⟨⟨_, rfl, bcRow (l := x21) sl30 (Nat.le_refl _) rfl⟩, ⟨_, rfl, bcBox (all2_free rfl)⟩, ⟨_, rfl, bcBox (all2_free rfl)⟩, trivial⟩ ?_
                exact hJ1 _ h
              · rw [if_neg c39] at h
                refine .condF rfl (bn c39) <| .skip <| .keepL [0, 1, 2] [(0, i6 a0), (1, .rows (a1.map TCell.cells)), (9, .own 0 x21.length), (11, .ptr 1 1 3 0 0), (12, .ptr 2 1 3 0 0), (21, .rows (a2.map TCell.cells)), (22, i6 (a2.length : Int)), (23, i6 x22), (32, i6 a0), (33, i6 x52)] [⟨3, x21.map TCell.cells, 0, none⟩, ⟨3, [(TCell.lit (rdl a2 x22))], 0, none⟩, ⟨3, [[u6 x49, i6 x50, i6 x51]], 0, none⟩] (by decide) (by decide) ⟨.free rfl rfl, .free rfl rfl, .own rfl, .ptr rfl, .ptr rfl, .free rfl rfl, .free rfl rfl, .free rfl rfl, .free rfl rfl, .free rfl rfl, trivial⟩ ⟨⟨_, rfl, bcRow (l := x21) sl30 (Nat.le_refl _) rfl⟩, ⟨_, rfl, bcBox (all2_free rfl)⟩, ⟨_, rfl, bcBox (all2_free rfl)⟩, trivial⟩ ?_
                exact hJ1 _ h
          · rw [if_neg c35] at h
            refine .condF rfl (df c35) <| .exit rfl <| .keepL [0, 2] [(0, i6 a0), (1, .rows (a1.map TCell.cells)), (9, .own 0 x21.length), (12, .ptr 1 1 3 0 0), (21, .rows (a2.map TCell.cells)), (22, i6 (a2.length : Int)), (23, i6 x22)] [⟨3, x21.map TCell.cells, 0, none⟩, ⟨3, [[u6 x49, i6 x50, i6 x51]], 0, none⟩] (by decide) (by decide) ⟨.free rfl rfl, .free rfl rfl, .own rfl, .ptr rfl, .free rfl rfl, .free rfl rfl, .free rfl rfl, trivial⟩ ⟨⟨_, rfl, bcRow (l := x21) sl30 (Nat.le_refl _) rfl⟩, ⟨_, rfl, bcBox (all2_free rfl)⟩, trivial⟩ ?_
            exact hx2 _ h
      · rw [if_neg c24] at h
        refine .condF rfl (df c24) <| .exit rfl <| .keepL [0] [(9, .own 0 x21.length)] [⟨3, x21.map TCell.cells, 0, none⟩] (by decide) (by decide) ⟨.own rfl, trivial⟩ ⟨⟨_, rfl, bcRow (l := x21) sl30 (Nat.le_refl _) rfl⟩, trivial⟩ ?_
        exact hx1 _ h
  · rw [if_neg c1] at h
    refine .condT rfl (nt c1) <| .seq <| .reg0 rfl (.op 0 rfl (mvV rfl) <| .op 0 rfl (asV rfl) <| .op 0 rfl (asV rfl) <| .nil0) ?_
    replace h := h.symm
    subst h
    refine .k [(6, .rows (([] : List TCell).map TCell.cells)), (7, i6 t2_3)] ⟨.nil, .free rfl rfl, trivial⟩ ?_
    exact .ret rfl
end Go.RM.Tryz
