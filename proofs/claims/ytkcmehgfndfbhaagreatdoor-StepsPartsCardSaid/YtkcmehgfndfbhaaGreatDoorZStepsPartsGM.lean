/- GM, for the statement StepsParts: what it needs, no more. -/
import Derived.Test.YtkcmehgfndfbhaaGreatDoorZStepsPartsGL
set_option linter.unusedVariables false
set_option maxRecDepth 8000
set_option maxHeartbeats 40000000
namespace Go.RM.Tryz
open Go.RM Go.Proofs
def l12_StepsParts.j2 (a0 : TPds) (a1 : TConf) (x1 : List Int) : (List Int) → Bool → Prop := fun x2 r => ((Fits (0 + x1.length) 8)) ∧ ((Fits (x1.length + x2.length) 8)) ∧ ∃ t7_7 : TConf × TWeight × Int × Int, (steps_Run.f a0 a1 (x1 ++ x2) t7_7) ∧ ∃ t8_3 : TConf × TWeight × Int × Int, (steps_Run.f a0 a1 x1 t8_3) ∧ if t8_3.2.2.2 = 0 then (∃ t10_3 : TConf × TWeight × Int × Int, (steps_Run.f a0 t8_3.1 x2 t10_3) ∧ if t10_3.2.2.2 = 0 then (∃ t12_5 : TWeight × Int, (r05_Extend.f a0.Space [t8_3.2.1, t10_3.2.1] t12_5) ∧ ∃ t13_9 : Bool, ((t7_7.2.2.2 = 0) → (t12_5.2 = 0) → r12_Same.f t7_7.1 t10_3.1 t13_9) ∧ ∃ t13_14 : Bool, ((t7_7.2.2.2 = 0) → (t12_5.2 = 0) → (t13_9 = true) → r05_Same.f t7_7.2.1 t12_5.1 t13_14) ∧ r = ((t7_7.2.2.2 == 0) && ((t12_5.2 == 0) && (t13_9 && t13_14)))) else (r = ((t7_7.2.2.2 == t10_3.2.2.2) && (t7_7.2.2.1 == (IntKind.i64.wrap ((x1.length : Int) + t10_3.2.2.1)))))) else (r = ((t7_7.2.2.2 == t8_3.2.2.2) && (t7_7.2.2.1 == t8_3.2.2.1)))
def l12_StepsParts.j1 (a0 : TPds) (a1 : TConf) (a3 : List Int) : (List Int) → Bool → Prop := fun x1 r => if (a3.length : Int) > 200 then (((Cut 0 200 a3.length)) ∧ l12_StepsParts.j2 a0 a1 x1 (cutl a3 0 200) r) else (l12_StepsParts.j2 a0 a1 x1 a3 r)
def l12_StepsParts.f (a0 : TPds) (a1 : TConf) (a2 : List Int) (a3 : List Int) (r : Bool) : Prop :=
  ∃ t2_0 : Bool, (l12_awake.f t2_0) ∧ if t2_0 = true then (if (a2.length : Int) > 200 then (((Cut 0 200 a2.length)) ∧ l12_StepsParts.j1 a0 a1 a3 (cutl a2 0 200) r) else (l12_StepsParts.j1 a0 a1 a3 a2 r)) else (r = false)
theorem l12_StepsParts.D {a0 a1 a2 a3 r} (h : l12_StepsParts.f a0 a1 a2 a3 r) : D Tryz.prog X (.callH 4 [.agg (TPds.lit a0), .agg (TConf.lit a1), .rows (a2.map (cInt .i64)), .rows (a3.map (cInt .i64))] [] (.val (.bool r)) []) := by
  unfold l12_StepsParts.f at h
  refine .enter 114 0 fn4 rfl rfl rfl <| .seq <| .room 0 <| .room 0 <| .reg0 rfl (.op 0 rfl (bxP (s := 6) (cs := (TPds.lit a0)) rfl ⟨rfl, by decide, rfl⟩ rfl) <| .op 1 rfl (bxP (s := 2) (cs := (TConf.lit a1)) rfl ⟨rfl, by decide, rfl⟩ rfl) <| .op 0 rfl (asV rfl) <| .nil0) <| .seq <| .seq ?_
  obtain ⟨t2_0, g2_0, h⟩ := h
  refine .reg0 rfl (.c rfl go12 rfl rfl rfl (l12_awake.D g2_0) <| .o (notB rfl) <| .nil0) ?_
  by_cases c1 : t2_0 = true
  · rw [if_pos c1] at h
    refine .condF rfl (bnotF c1) <| .skip <| .seq <| .seq <| .reg0 rfl (.op 0 rfl (mvR rfl) <| .op 0 rfl (lnR (l := a2) sl29 rfl) <| .op 0 rfl (gtI rfl rfl) <| .nil0) ?_
    refine .consJ (fun s_ => l12_StepsParts.j1 a0 a1 a3 s_ r) (fun x1 => listEnv [(2, .rows (x1.map (cInt .i64))), (3, .rows (a3.map (cInt .i64))), (4, .ptr 0 1 6 0 0), (5, .ptr 1 1 2 0 0)]) (fun x1 => [⟨6, [(TPds.lit a0)], 0, none⟩, ⟨2, [(TConf.lit a1)], 0, none⟩]) ?_ fun hJ1 => ?_
    · rintro x1 h
      unfold l12_StepsParts.j1 at h
      try dsimp only at h
      refine .seq <| .seq <| .reg0 rfl (.op 0 rfl (mvR rfl) <| .op 0 rfl (lnR (l := a3) sl29 rfl) <| .op 0 rfl (gtI rfl rfl) <| .nil0) ?_
      refine .consJ (fun s_ => l12_StepsParts.j2 a0 a1 x1 s_ r) (fun x2 => listEnv [(2, .rows (x1.map (cInt .i64))), (3, .rows (x2.map (cInt .i64))), (4, .ptr 0 1 6 0 0), (5, .ptr 1 1 2 0 0)]) (fun x2 => [⟨6, [(TPds.lit a0)], 0, none⟩, ⟨2, [(TConf.lit a1)], 0, none⟩]) ?_ fun hJ2 => ?_
      · rintro x2 h
        unfold l12_StepsParts.j2 at h
        try dsimp only at h
        refine .seq ?_
        obtain ⟨g7_4, h⟩ := h
        obtain ⟨g7_6, h⟩ := h
        obtain ⟨t7_7, g7_7, h⟩ := h
        refine .room 0 <| .room 0 <| .room 0 <| .room 0 <| .room 0 ?_
        refine .reg1 (e1 := listEnv [(2, .rows (x1.map (cInt .i64))), (3, .rows (x2.map (cInt .i64))), (4, .ptr 0 1 6 0 0), (5, .ptr 1 1 2 0 0), (9, .ptr 5 1 2 0 0), (10, .ptr 6 1 6 0 0), (11, i6 t7_7.2.2.1), (12, i6 t7_7.2.2.2)]) (H1 := [⟨6, [(TPds.lit a0)], 0, none⟩, ⟨2, [(TConf.lit a1)], 0, none⟩, ⟨1, (x1 ++ x2).map (cInt .i64), (max 0 ((x1 ++ x2).map (cInt .i64) : List (List PV)).length), none⟩, Blk.hole, Blk.hole, ⟨2, [(TConf.lit t7_7.1)], 0, none⟩, ⟨6, [(TWeight.lit t7_7.2.1)], 0, none⟩]) rfl ?_ ?_
        · exact .drawM [(18, 12, i6 t7_7.2.2.2), (17, 11, i6 t7_7.2.2.1), (14, 10, .ptr 6 1 6 0 0), (13, 9, .ptr 5 1 2 0 0), (12, 47, i6 t7_7.2.2.2), (11, 46, i6 t7_7.2.2.1), (10, 45, .agg (TWeight.lit t7_7.2.1)), (9, 44, .agg (TConf.lit t7_7.1)), (8, 35, .tuple [.agg (TConf.lit t7_7.1), .agg (TWeight.lit t7_7.2.1), i6 t7_7.2.2.1, i6 t7_7.2.2.2]), (7, 43, .tuple [.agg (TConf.lit t7_7.1), .agg (TWeight.lit t7_7.2.1), i6 t7_7.2.2.1, i6 t7_7.2.2.2]), (6, 42, .own 2 ((x1 ++ x2).length)), (5, 41, .rows (x2.map (cInt .i64))), (4, 40, .own 2 x1.length), (3, 39, .rows (x1.map (cInt .i64))), (2, 38, .own 2 0), (1, 37, .agg (TConf.lit a1)), (0, 36, .agg (TPds.lit a0))] [(16, 6, ⟨6, [(TWeight.lit t7_7.2.1)], 0, none⟩), (15, 5, ⟨2, [(TConf.lit t7_7.1)], 0, none⟩), (14, 6, ⟨6, [GL_c0], 0, none⟩), (13, 5, ⟨2, [[i6 0, nul]], 0, none⟩), (7, 2, ⟨1, (x1 ++ x2).map (cInt .i64), (max 0 ((x1 ++ x2).map (cInt .i64) : List (List PV)).length), none⟩), (6, 2, ⟨1, (x1 ++ x2).map (cInt .i64), 0, none⟩), (4, 2, ⟨1, x1.map (cInt .i64), 0, none⟩), (2, 2, ⟨1, [].map (cInt .i64), 0, none⟩)] [[], [], [], [], [2, 3], [], [4, 2, 3, 5], [0, 1, 6, 4, 2, 3, 5], [7, 0, 1, 6, 4, 2, 3, 5], [8, 7, 0, 1, 6, 4, 2, 3, 5], [8, 7, 0, 1, 6, 4, 2, 3, 5], [8, 7, 0, 1, 6, 4, 2, 3, 5], [8, 7, 0, 1, 6, 4, 2, 3, 5], [], [], [13, 9, 8, 7, 0, 1, 6, 4, 2, 3, 5, 14], [14, 10, 8, 7, 0, 1, 6, 4, 2, 3, 5, 15, 13, 9], [11, 8, 7, 0, 1, 6, 4, 2, 3, 5, 16, 14, 10, 15, 13, 9], [12, 8, 7, 0, 1, 6, 4, 2, 3, 5, 17, 11, 16, 14, 10, 15, 13, 9]] (by rfl) (by rfl) (by rfl) (by exact ⟨oP (fun _ => ldG rfl sz28 ag28 rfl) rfl, oP (fun _ => ldG rfl sz31 ag31 rfl) rfl, oW 2 (fun _ => bldL (s := 1) (cs := []) un29 sz3 ze3 ⟨by decide, rfl, by decide⟩ rfl rfl rfl rfl) rfl fun _ => rfl, oP (fun _ => mvR rfl) rfl, oW 0 (fun _ => apL (l := []) x1 sl29 rfl rfl rfl (Nat.zero_le _) rfl g7_4) rfl fun _ => rfl, oP (fun _ => mvR rfl) rfl, oW 0 (fun _ => apL (l := x1) x2 sl29 rfl rfl rfl (Nat.zero_le _) rfl g7_6) rfl fun _ => rfl, fun S hS hD hn => .oneI hS hD hn rfl rfl (callee_of rfl go8 rfl) (.lendC (args' := [.agg (TPds.lit a0), .agg (TConf.lit a1), .rows ((x1 ++ x2).map (cInt .i64))])  [2] true (.cons (.free rfl rfl) <| .cons (.free rfl rfl) <| .cons (cFixO (l := (x1 ++ x2)) sl29 rfl rfl rfl rfl) <| .nil) (by decide) rfl rfl rfl rfl (steps_Run.D g7_7)) rfl rfl rfl, oP (fun _ => mvT rfl) rfl, oP (fun _ => exT rfl rfl) rfl, oP (fun _ => exT rfl rfl) rfl, oP (fun _ => exT rfl rfl) rfl, oP (fun _ => exT rfl rfl) rfl, oW 5 (fun _ => alP (s := 2) ze31 ⟨rfl, by decide, rfl⟩ rfl) rfl fun _ => rfl, oW 6 (fun _ => alP (s := 6) ze39 ⟨rfl, by decide, rfl⟩ rfl) rfl fun _ => rfl, fun S hS hD hn => .one0 0 rfl rfl (stB (cs0 := [i6 0, nul]) (cs := (TConf.lit t7_7.1)) (cs1 := (TConf.lit t7_7.1)) rfl rfl sz31 rfl ⟨Nat.le_of_ble_eq_true rfl, rfl⟩ rfl) (drawE_other _ _ _ _ rfl) rfl, fun S hS hD hn => .one0 0 rfl rfl (stB (cs0 := GL_c0) (cs := (TWeight.lit t7_7.2.1)) (cs1 := (TWeight.lit t7_7.2.1)) rfl rfl sz39 rfl ⟨Nat.le_of_ble_eq_true rfl, rfl⟩ rfl) (drawE_other _ _ _ _ rfl) rfl, oP (fun _ => asV rfl) rfl, oP (fun _ => asV rfl) rfl, trivial⟩) _ (by exact ⟨.free rfl rfl, .free rfl rfl, .ptr rfl, .ptr rfl, .ptr rfl, .ptr rfl, .free rfl rfl, .free rfl rfl, trivial⟩) (by rfl)
        refine .seq ?_
        obtain ⟨t8_3, g8_3, h⟩ := h
        refine .room 0 <| .room 0 <| .reg0 (e1 := listEnv [(2, .rows (x1.map (cInt .i64))), (3, .rows (x2.map (cInt .i64))), (4, .ptr 0 1 6 0 0), (9, .ptr 5 1 2 0 0), (10, .ptr 6 1 6 0 0), (11, i6 t7_7.2.2.1), (12, i6 t7_7.2.2.2), (13, .ptr 7 1 2 0 0), (14, .ptr 8 1 6 0 0), (15, i6 t8_3.2.2.1), (16, i6 t8_3.2.2.2)]) (H1 := [⟨6, [(TPds.lit a0)], 0, none⟩, ⟨2, [(TConf.lit a1)], 0, none⟩, ⟨1, (x1 ++ x2).map (cInt .i64), (max 0 ((x1 ++ x2).map (cInt .i64) : List (List PV)).length), none⟩, Blk.hole, Blk.hole, ⟨2, [(TConf.lit t7_7.1)], 0, none⟩, ⟨6, [(TWeight.lit t7_7.2.1)], 0, none⟩, ⟨2, [(TConf.lit t8_3.1)], 0, none⟩, ⟨6, [(TWeight.lit t8_3.2.1)], 0, none⟩]) rfl (.op 0 rfl (ldG rfl sz28 ag28 rfl) <| .op 0 rfl (ldG rfl sz31 ag31 rfl) <| .op 0 rfl (mvR rfl) <| .callI rfl (callee_of rfl go8 rfl) (.pure rfl rfl (steps_Run.D g8_3)) <| .op 0 rfl (mvT rfl) <| .op 0 rfl (exT rfl rfl) <| .op 0 rfl (exT rfl rfl) <| .op 0 rfl (exT rfl rfl) <| .op 0 rfl (exT rfl rfl) <| .op 7 rfl (alP (s := 2) ze31 ⟨rfl, by decide, rfl⟩ rfl) <| .op 8 rfl (alP (s := 6) ze39 ⟨rfl, by decide, rfl⟩ rfl) <| .op 0 rfl (stB (cs0 := [i6 0, nul]) (cs := (TConf.lit t8_3.1)) (cs1 := (TConf.lit t8_3.1)) rfl rfl sz31 rfl ⟨Nat.le_of_ble_eq_true rfl, rfl⟩ rfl) <| .op 0 rfl (stB (cs0 := GL_c0) (cs := (TWeight.lit t8_3.2.1)) (cs1 := (TWeight.lit t8_3.2.1)) rfl rfl sz39 rfl ⟨Nat.le_of_ble_eq_true rfl, rfl⟩ rfl) <| .op 0 rfl (asV rfl) <| .op 0 rfl (asV rfl) <| .nilL _ ⟨.free rfl rfl, .free rfl rfl, .ptr rfl, .ptr rfl, .ptr rfl, .free rfl rfl, .free rfl rfl, .ptr rfl, .ptr rfl, .free rfl rfl, .free rfl rfl, trivial⟩) ?_
        refine .seq <| .seq <| .reg0 rfl (.op 0 rfl (mvV rfl) <| .op 0 rfl (neI rfl rfl) <| .nil0) ?_
        by_cases c4 : t8_3.2.2.2 = 0
        · rw [if_pos c4] at h
          refine .condF rfl (nf c4) <| .skip <| .seq ?_
          obtain ⟨t10_3, g10_3, h⟩ := h
          refine .room 0 <| .room 0 <| .reg0 (e1 := listEnv [(2, .rows (x1.map (cInt .i64))), (4, .ptr 0 1 6 0 0), (9, .ptr 5 1 2 0 0), (10, .ptr 6 1 6 0 0), (11, i6 t7_7.2.2.1), (12, i6 t7_7.2.2.2), (14, .ptr 8 1 6 0 0), (17, .ptr 9 1 2 0 0), (18, .ptr 10 1 6 0 0), (19, i6 t10_3.2.2.1), (20, i6 t10_3.2.2.2)]) (H1 := [⟨6, [(TPds.lit a0)], 0, none⟩, ⟨2, [(TConf.lit a1)], 0, none⟩, ⟨1, (x1 ++ x2).map (cInt .i64), (max 0 ((x1 ++ x2).map (cInt .i64) : List (List PV)).length), none⟩, Blk.hole, Blk.hole, ⟨2, [(TConf.lit t7_7.1)], 0, none⟩, ⟨6, [(TWeight.lit t7_7.2.1)], 0, none⟩, ⟨2, [(TConf.lit t8_3.1)], 0, none⟩, ⟨6, [(TWeight.lit t8_3.2.1)], 0, none⟩, ⟨2, [(TConf.lit t10_3.1)], 0, none⟩, ⟨6, [(TWeight.lit t10_3.2.1)], 0, none⟩]) rfl (.op 0 rfl (ldG rfl sz28 ag28 rfl) <| .op 0 rfl (ldG rfl sz31 ag31 rfl) <| .op 0 rfl (mvR rfl) <| .callI rfl (callee_of rfl go8 rfl) (.pure rfl rfl (steps_Run.D g10_3)) <| .op 0 rfl (mvT rfl) <| .op 0 rfl (exT rfl rfl) <| .op 0 rfl (exT rfl rfl) <| .op 0 rfl (exT rfl rfl) <| .op 0 rfl (exT rfl rfl) <| .op 9 rfl (alP (s := 2) ze31 ⟨rfl, by decide, rfl⟩ rfl) <| .op 10 rfl (alP (s := 6) ze39 ⟨rfl, by decide, rfl⟩ rfl) <| .op 0 rfl (stB (cs0 := [i6 0, nul]) (cs := (TConf.lit t10_3.1)) (cs1 := (TConf.lit t10_3.1)) rfl rfl sz31 rfl ⟨Nat.le_of_ble_eq_true rfl, rfl⟩ rfl) <| .op 0 rfl (stB (cs0 := GL_c0) (cs := (TWeight.lit t10_3.2.1)) (cs1 := (TWeight.lit t10_3.2.1)) rfl rfl sz39 rfl ⟨Nat.le_of_ble_eq_true rfl, rfl⟩ rfl) <| .op 0 rfl (asV rfl) <| .op 0 rfl (asV rfl) <| .nilL _ ⟨.free rfl rfl, .ptr rfl, .ptr rfl, .ptr rfl, .free rfl rfl, .free rfl rfl, .ptr rfl, .ptr rfl, .ptr rfl, .free rfl rfl, .free rfl rfl, trivial⟩) ?_
          refine .seq <| .seq <| .reg0 rfl (.op 0 rfl (mvV rfl) <| .op 0 rfl (neI rfl rfl) <| .nil0) ?_
          by_cases c5 : t10_3.2.2.2 = 0
          · rw [if_pos c5] at h
            refine .condF rfl (nf c5) <| .skip <| .seq ?_
            obtain ⟨t12_5, g12_5, h⟩ := h
            refine .room 0 <| .room 0 <| .reg0 (e1 := listEnv [(9, .ptr 5 1 2 0 0), (10, .ptr 6 1 6 0 0), (12, i6 t7_7.2.2.2), (17, .ptr 9 1 2 0 0), (21, .ptr 12 1 6 0 0), (22, i6 t12_5.2)]) (H1 := [⟨6, [(TPds.lit a0)], 0, none⟩, ⟨2, [(TConf.lit a1)], 0, none⟩, ⟨1, (x1 ++ x2).map (cInt .i64), (max 0 ((x1 ++ x2).map (cInt .i64) : List (List PV)).length), none⟩, Blk.hole, Blk.hole, ⟨2, [(TConf.lit t7_7.1)], 0, none⟩, ⟨6, [(TWeight.lit t7_7.2.1)], 0, none⟩, ⟨2, [(TConf.lit t8_3.1)], 0, none⟩, ⟨6, [(TWeight.lit t8_3.2.1)], 0, none⟩, ⟨2, [(TConf.lit t10_3.1)], 0, none⟩, ⟨6, [(TWeight.lit t10_3.2.1)], 0, none⟩, ⟨6, [t8_3.2.1, t10_3.2.1].map TWeight.cells, (max 0 ([t8_3.2.1, t10_3.2.1].map TWeight.cells : List (List PV)).length), none⟩, ⟨6, [(TWeight.lit t12_5.1)], 0, none⟩]) rfl (.op 0 rfl (faP fa28_0 rfl) <| .op 0 rfl (ldG rfl sz25 ag25 rfl) <| .op 0 rfl (ldG rfl sz39 ag39 rfl) <| .op 0 rfl (ldG rfl sz39 ag39 rfl) <| .op 11 rfl (bldT (s := 6) (cs := [bo t8_3.2.1.Zero, i6 t8_3.2.1.Cost, u6 t8_3.2.1.Facts.Gen, .rows (t8_3.2.1.Facts.Rows.map (cInt .u64)), .rows (t8_3.2.1.Cells.map TCell.cells), .rows (t8_3.2.1.Parts.map TWeight.cells), bo t10_3.2.1.Zero, i6 t10_3.2.1.Cost, u6 t10_3.2.1.Facts.Gen, .rows (t10_3.2.1.Facts.Rows.map (cInt .u64)), .rows (t10_3.2.1.Cells.map TCell.cells), .rows (t10_3.2.1.Parts.map TWeight.cells)]) (cf := TWeight.cells) [t8_3.2.1, t10_3.2.1] un37 sz39 ze39 ⟨by decide, rfl, by decide⟩ rfl rfl rfl (by simp only [List.map, TWeight.cells_lit]; rfl) rfl) <| .callI rfl (callee_of rfl go13 rfl) (.lendC (args' := [.agg (TSpace.lit a0.Space), .rows ([t8_3.2.1, t10_3.2.1].map TWeight.cells)])  [11] true (.cons (.free rfl rfl) <| .cons (cFixO (l := [t8_3.2.1, t10_3.2.1]) sl37 rfl rfl rfl rfl) <| .nil) (by decide) rfl rfl rfl rfl (r05_Extend.D g12_5)) <| .op 0 rfl (mvT rfl) <| .op 0 rfl (exT rfl rfl) <| .op 0 rfl (exT rfl rfl) <| .op 12 rfl (alP (s := 6) ze39 ⟨rfl, by decide, rfl⟩ rfl) <| .op 0 rfl (stB (cs0 := GL_c0) (cs := (TWeight.lit t12_5.1)) (cs1 := (TWeight.lit t12_5.1)) rfl rfl sz39 rfl ⟨Nat.le_of_ble_eq_true rfl, rfl⟩ rfl) <| .op 0 rfl (asV rfl) <| .nilL _ ⟨.ptr rfl, .ptr rfl, .free rfl rfl, .ptr rfl, .ptr rfl, .free rfl rfl, trivial⟩) ?_
            refine .seq ?_
            obtain ⟨t13_9, g13_9, h⟩ := h
            obtain ⟨t13_14, g13_14, h⟩ := h
            refine .reg0 (e1 := listEnv [(8, bo ((t7_7.2.2.2 == 0) && ((t12_5.2 == 0) && (t13_9 && t13_14))))]) (H1 := [⟨6, [(TPds.lit a0)], 0, none⟩, ⟨2, [(TConf.lit a1)], 0, none⟩, ⟨1, (x1 ++ x2).map (cInt .i64), (max 0 ((x1 ++ x2).map (cInt .i64) : List (List PV)).length), none⟩, Blk.hole, Blk.hole, ⟨2, [(TConf.lit t7_7.1)], 0, none⟩, ⟨6, [(TWeight.lit t7_7.2.1)], 0, none⟩, ⟨2, [(TConf.lit t8_3.1)], 0, none⟩, ⟨6, [(TWeight.lit t8_3.2.1)], 0, none⟩, ⟨2, [(TConf.lit t10_3.1)], 0, none⟩, ⟨6, [(TWeight.lit t10_3.2.1)], 0, none⟩, ⟨6, [t8_3.2.1, t10_3.2.1].map TWeight.cells, (max 0 ([t8_3.2.1, t10_3.2.1].map TWeight.cells : List (List PV)).length), none⟩, ⟨6, [(TWeight.lit t12_5.1)], 0, none⟩]) rfl ?_ ?_
            · refine .m rfl <| .o (eqI rfl rfl) <| .m rfl <| ?_
              by_cases c6 : t7_7.2.2.2 = 0
              · refine .g rfl (bt c6) (mvV rfl) <| .g rfl (bt c6) (eqI rfl rfl) <| .o (pkTV rfl (bt c6) rfl) <| .m rfl <| ?_
                by_cases c7 : t12_5.2 = 0
                · refine .g rfl (bt c7) (ldG rfl sz31 ag31 rfl) <| .g rfl (bt c7) (ldG rfl sz31 ag31 rfl) <| .callI (gT rfl rfl rfl (bt c7)) (callee_of rfl go10 rfl) (.pure rfl rfl (r12_Same.D (g13_9 c6 c7))) <| .o (pkTV rfl (bt c7) rfl) <| .m rfl <| ?_
                  by_cases c8 : t13_9 = true
                  · exact (.g rfl c8 (ldG rfl sz39 ag39 rfl) <| .g rfl c8 (ldG rfl sz39 ag39 rfl) <| .callI (gT rfl rfl rfl c8) (callee_of rfl go11 rfl) (.pure rfl rfl (r05_Same.D (g13_14 c6 c7 c8))) <| .o (pkTV rfl c8 rfl) <| .a rfl <| .nilL _ ⟨cB rfl (mAndT (bt c6) (mAndT (bt c7) (mAndT c8 rfl))), trivial⟩)
                  · exact (.n rfl (nb c8) <| .n rfl (nb c8) <| .n rfl (nb c8) <| .o (pkFV rfl (nb c8) rfl) <| .a rfl <| .nilL _ ⟨cB rfl (mAndT (bt c6) (mAndT (bt c7) (mAndF (nb c8)))), trivial⟩)
                · exact (.n rfl (bn c7) <| .n rfl (bn c7) <| .n rfl (bn c7) <| .o (pkFV rfl (bn c7) rfl) <| .m rfl <| .n rfl rfl <| .n rfl rfl <| .n rfl rfl <| .o (pkFV rfl rfl rfl) <| .a rfl <| .nilL _ ⟨cB rfl (mAndT (bt c6) (mAndF (bn c7))), trivial⟩)
              · exact (.n rfl (bn c6) <| .n rfl (bn c6) <| .o (pkFV rfl (bn c6) rfl) <| .m rfl <| .n rfl rfl <| .n rfl rfl <| .n rfl rfl <| .o (pkFV rfl rfl rfl) <| .m rfl <| .n rfl rfl <| .n rfl rfl <| .n rfl rfl <| .o (pkFV rfl rfl rfl) <| .a rfl <| .nilL _ ⟨cB rfl (mAndF (bn c6)), trivial⟩)
            replace h := h.symm
            subst h
            refine .kf [(8, bo ((t7_7.2.2.2 == 0) && ((t12_5.2 == 0) && (t13_9 && t13_14))))] rfl rfl ?_
            exact .ret rfl
          · rw [if_neg c5] at h
            refine .condT rfl (nt c5) <| .seq ?_
            refine .reg0 (e1 := listEnv [(8, bo ((t7_7.2.2.2 == t10_3.2.2.2) && (t7_7.2.2.1 == (IntKind.i64.wrap ((x1.length : Int) + t10_3.2.2.1)))))]) (H1 := [⟨6, [(TPds.lit a0)], 0, none⟩, ⟨2, [(TConf.lit a1)], 0, none⟩, ⟨1, (x1 ++ x2).map (cInt .i64), (max 0 ((x1 ++ x2).map (cInt .i64) : List (List PV)).length), none⟩, Blk.hole, Blk.hole, ⟨2, [(TConf.lit t7_7.1)], 0, none⟩, ⟨6, [(TWeight.lit t7_7.2.1)], 0, none⟩, ⟨2, [(TConf.lit t8_3.1)], 0, none⟩, ⟨6, [(TWeight.lit t8_3.2.1)], 0, none⟩, ⟨2, [(TConf.lit t10_3.1)], 0, none⟩, ⟨6, [(TWeight.lit t10_3.2.1)], 0, none⟩]) rfl ?_ ?_
            · refine .m rfl <| .m rfl <| .o (eqI rfl rfl) <| .m rfl <| ?_
              by_cases c9 : t7_7.2.2.2 = t10_3.2.2.2
              · exact (.g rfl (bt c9) (mvV rfl) <| .g rfl (bt c9) (mvR rfl) <| .g rfl (bt c9) (lnR (l := x1) sl29 rfl) <| .g rfl (bt c9) (mvV rfl) <| .g rfl (bt c9) (addI rfl rfl) <| .g rfl (bt c9) (eqI rfl rfl) <| .o (pkTV rfl (bt c9) rfl) <| .a rfl <| .nilL _ ⟨cB rfl (mAndT (bt c9) rfl), trivial⟩)
              · exact (.n rfl (bn c9) <| .n rfl (bn c9) <| .n rfl (bn c9) <| .n rfl (bn c9) <| .n rfl (bn c9) <| .n rfl (bn c9) <| .o (pkFV rfl (bn c9) rfl) <| .a rfl <| .nilL _ ⟨cB rfl (mAndF (bn c9)), trivial⟩)
            replace h := h.symm
            subst h
            refine .kf [(8, bo ((t7_7.2.2.2 == t10_3.2.2.2) && (t7_7.2.2.1 == (IntKind.i64.wrap ((x1.length : Int) + t10_3.2.2.1)))))] rfl rfl ?_
            exact .ret rfl
        · rw [if_neg c4] at h
          refine .condT rfl (nt c4) <| .seq ?_
          refine .reg0 (e1 := listEnv [(8, bo ((t7_7.2.2.2 == t8_3.2.2.2) && (t7_7.2.2.1 == t8_3.2.2.1)))]) (H1 := [⟨6, [(TPds.lit a0)], 0, none⟩, ⟨2, [(TConf.lit a1)], 0, none⟩, ⟨1, (x1 ++ x2).map (cInt .i64), (max 0 ((x1 ++ x2).map (cInt .i64) : List (List PV)).length), none⟩, Blk.hole, Blk.hole, ⟨2, [(TConf.lit t7_7.1)], 0, none⟩, ⟨6, [(TWeight.lit t7_7.2.1)], 0, none⟩, ⟨2, [(TConf.lit t8_3.1)], 0, none⟩, ⟨6, [(TWeight.lit t8_3.2.1)], 0, none⟩]) rfl ?_ ?_
          · refine .m rfl <| .m rfl <| .o (eqI rfl rfl) <| .m rfl <| ?_
            by_cases c10 : t7_7.2.2.2 = t8_3.2.2.2
            · exact (.g rfl (bt c10) (mvV rfl) <| .g rfl (bt c10) (mvV rfl) <| .g rfl (bt c10) (eqI rfl rfl) <| .o (pkTV rfl (bt c10) rfl) <| .a rfl <| .nilL _ ⟨cB rfl (mAndT (bt c10) rfl), trivial⟩)
            · exact (.n rfl (bn c10) <| .n rfl (bn c10) <| .n rfl (bn c10) <| .o (pkFV rfl (bn c10) rfl) <| .a rfl <| .nilL _ ⟨cB rfl (mAndF (bn c10)), trivial⟩)
          replace h := h.symm
          subst h
          refine .kf [(8, bo ((t7_7.2.2.2 == t8_3.2.2.2) && (t7_7.2.2.1 == t8_3.2.2.1)))] rfl rfl ?_
          exact .ret rfl
      · by_cases c11 : (a3.length : Int) > 200
        · rw [if_pos c11] at h
          refine .condT rfl (dt c11) ?_
          obtain ⟨g16_1, h⟩ := h
          refine .reg0 rfl (.o (mvR rfl) <| .o (slR (l := a3) (h := Int.toNat 200) (v := 0) sl29 rfl rfl (bound_some rfl g16_1.j0) (Nat.zero_le _) (cut_le2 g16_1)) <| .o (asR rfl) <| .nil0) <| .keepL [0, 1] [(2, .rows (x1.map (cInt .i64))), (3, .rows ((cutl a3 0 200).map (cInt .i64))), (4, .ptr 0 1 6 0 0), (5, .ptr 1 1 2 0 0)] [⟨6, [(TPds.lit a0)], 0, none⟩, ⟨2, [(TConf.lit a1)], 0, none⟩] (by decide) (by decide) ⟨.free rfl rfl, .free rfl rfl, .ptr rfl, .ptr rfl, trivial⟩ ⟨⟨_, rfl, bcBox (all2_free rfl)⟩, ⟨_, rfl, bcBox (all2_free rfl)⟩, trivial⟩ ?_
          exact hJ2 _ h
        · rw [if_neg c11] at h
          refine .condF rfl (df c11) <| .skip <| .keepL [0, 1] [(2, .rows (x1.map (cInt .i64))), (3, .rows (a3.map (cInt .i64))), (4, .ptr 0 1 6 0 0), (5, .ptr 1 1 2 0 0)] [⟨6, [(TPds.lit a0)], 0, none⟩, ⟨2, [(TConf.lit a1)], 0, none⟩] (by decide) (by decide) ⟨.free rfl rfl, .free rfl rfl, .ptr rfl, .ptr rfl, trivial⟩ ⟨⟨_, rfl, bcBox (all2_free rfl)⟩, ⟨_, rfl, bcBox (all2_free rfl)⟩, trivial⟩ ?_
          exact hJ2 _ h
    · by_cases c12 : (a2.length : Int) > 200
      · rw [if_pos c12] at h
        refine .condT rfl (dt c12) ?_
        obtain ⟨g17_1, h⟩ := h
        refine .reg0 rfl (.o (mvR rfl) <| .o (slR (l := a2) (h := Int.toNat 200) (v := 0) sl29 rfl rfl (bound_some rfl g17_1.j0) (Nat.zero_le _) (cut_le2 g17_1)) <| .o (asR rfl) <| .nil0) <| .keepL [0, 1] [(2, .rows ((cutl a2 0 200).map (cInt .i64))), (3, .rows (a3.map (cInt .i64))), (4, .ptr 0 1 6 0 0), (5, .ptr 1 1 2 0 0)] [⟨6, [(TPds.lit a0)], 0, none⟩, ⟨2, [(TConf.lit a1)], 0, none⟩] (by decide) (by decide) ⟨.free rfl rfl, .free rfl rfl, .ptr rfl, .ptr rfl, trivial⟩ ⟨⟨_, rfl, bcBox (all2_free rfl)⟩, ⟨_, rfl, bcBox (all2_free rfl)⟩, trivial⟩ ?_
        exact hJ1 _ h
      · rw [if_neg c12] at h
        refine .condF rfl (df c12) <| .skip <| .keepL [0, 1] [(2, .rows (a2.map (cInt .i64))), (3, .rows (a3.map (cInt .i64))), (4, .ptr 0 1 6 0 0), (5, .ptr 1 1 2 0 0)] [⟨6, [(TPds.lit a0)], 0, none⟩, ⟨2, [(TConf.lit a1)], 0, none⟩] (by decide) (by decide) ⟨.free rfl rfl, .free rfl rfl, .ptr rfl, .ptr rfl, trivial⟩ ⟨⟨_, rfl, bcBox (all2_free rfl)⟩, ⟨_, rfl, bcBox (all2_free rfl)⟩, trivial⟩ ?_
        exact hJ1 _ h
  · rw [if_neg c1] at h
    refine .condT rfl (bnotT (nb c1)) <| .seq <| .reg0 rfl (.op 0 rfl (asV rfl) <| .nil0) ?_
    replace h := h.symm
    subst h
    refine .kf [(8, bo false)] rfl rfl ?_
    exact .ret rfl
end Go.RM.Tryz
