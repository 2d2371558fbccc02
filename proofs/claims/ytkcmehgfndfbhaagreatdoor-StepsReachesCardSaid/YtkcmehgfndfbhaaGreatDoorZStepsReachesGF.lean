/- GF, for the statement StepsReaches: what it needs, no more. -/
import Derived.Test.YtkcmehgfndfbhaaGreatDoorZStepsReachesGE
set_option linter.unusedVariables false
set_option maxRecDepth 8000
set_option maxHeartbeats 4000000
namespace Go.RM.Tryz
open Go.RM Go.Proofs
def weight_Extend.b1 (a0 : TSpace) (a1 : List TWeight) : (Bool × Int × Int × (List Int) × (List TCell) × (List TWeight) × Int) → Rnd ((Bool × Int × Int × (List Int) × (List TCell) × (List TWeight) × Int)) ((Bool × Int × Int × (List Int) × (List TCell) × (List TWeight))) (TWeight × Int) → Prop := fun (x1, x2, x3, x4, x5, x6, x7) z1 => if x7 < (a1.length : Int) then (((InR x7 a1.length)) ∧ ∃ t16_3 : TWeight, (weight_then.f a0 (TWeight.mk x1 x2 (TFacts.mk x3 x4) x5 x6) (rdl a1 x7) t16_3) ∧ z1 = .next (t16_3.Zero, t16_3.Cost, t16_3.Facts.Gen, t16_3.Facts.Rows, t16_3.Cells, t16_3.Parts, (IntKind.i64.wrap (x7 + 1)))) else (z1 = .exit (x1, x2, x3, x4, x5, x6))
def weight_Extend.f (a0 : TSpace) (a1 : List TWeight) (r : TWeight × Int) : Prop :=
  ∃ t2_2 : Int, (weight_checked.f a0 a1 t2_2) ∧ if t2_2 = 0 then (∃ t4_1 : TWeight, (weight_one.f a0 t4_1) ∧ ∃ o1 : Fin ((Bool × Int × Int × (List Int) × (List TCell) × (List TWeight))) (TWeight × Int), Loop (weight_Extend.b1 a0 a1) (t4_1.Zero, t4_1.Cost, t4_1.Facts.Gen, t4_1.Facts.Rows, t4_1.Cells, t4_1.Parts, 0) o1 ∧ o1.on (fun (x8, x9, x10, x11, x12, x13) => ∃ t18_1 : TWeight, (weight_copied.f (TWeight.mk x8 x9 (TFacts.mk x10 x11) x12 x13) t18_1) ∧ r = (t18_1, 0)) (fun r_ => r = r_)) else (r = ((TWeight.mk false 0 (TFacts.mk 0 []) [] []), t2_2))
abbrev GF_c0 : List PV := [bo false, i6 0, u6 0, nul, nul, nul]
abbrev GF_c1 : List PV := [bo false, i6 0, u6 0, .rows (([] : List Int).map (cInt .u64)), .rows (([] : List TCell).map TCell.cells), .rows (([] : List TWeight).map TWeight.cells)]
abbrev GF_c2 : List PV := [i6 0, .rows (([] : List Int).map (cInt .i64))]
theorem weight_Extend.D {a0 a1 r} (h : weight_Extend.f a0 a1 r) : D Tryz.prog X (.callH 29 [.agg (TSpace.lit a0), .rows (a1.map TWeight.cells)] [] (.tuple [.agg (TWeight.lit r.1), .val (.int .i64 r.2)]) []) := by
  unfold weight_Extend.f at h
  refine .enter 32 0 fn29 rfl rfl rfl <| .seq <| .room 0 <| .room 0 <| .reg0 rfl (.op 0 rfl (bxP (s := 3) (cs := (TSpace.lit a0)) rfl ⟨rfl, by decide, rfl⟩ rfl) <| .op 1 rfl (alP (s := 6) ze39 ⟨rfl, by decide, rfl⟩ rfl) <| .op 0 rfl (asV rfl) <| .nil0) <| .seq <| .seq ?_
  obtain ⟨t2_2, g2_2, h⟩ := h
  refine .reg0 rfl (.o (ldG rfl sz25 ag25 rfl) <| .o (mvR rfl) <| .c rfl go52 rfl rfl rfl (weight_checked.D g2_2) <| .a rfl <| .nil0) <| .seq <| .reg0 rfl (.op 0 rfl (mvV rfl) <| .op 0 rfl (neI rfl rfl) <| .nil0) ?_
  by_cases c1 : t2_2 = 0
  · rw [if_pos c1] at h
    refine .condF rfl (nf c1) <| .skip <| .seq ?_
    obtain ⟨t4_1, g4_1, h⟩ := h
    refine .room 0 <| .reg0 rfl (.op 0 rfl (ldG rfl sz25 ag25 rfl) <| .callI rfl (callee_of rfl go50 rfl) (.pure rfl rfl (weight_one.D g4_1)) <| .op 2 rfl (alP (s := 6) ze39 ⟨rfl, by decide, rfl⟩ rfl) <| .op 0 rfl (stB (cs0 := GF_c0) (cs := (TWeight.lit t4_1)) (cs1 := (TWeight.lit t4_1)) rfl rfl sz39 rfl ⟨Nat.le_of_ble_eq_true rfl, rfl⟩ rfl) <| .nil0) <| .seq <| .seq <| .reg0 rfl (.op 0 rfl (mvR rfl) <| .op 0 rfl (lnR (l := a1) sl37 rfl) <| .op 0 rfl (mvV rfl) <| .nil0) ?_
    refine .block <| .keepL [0, 1, 2] [(2, .ptr 0 1 3 0 0), (4, .ptr 1 1 6 0 0), (7, .ptr 2 1 6 0 0), (19, .rows (a1.map TWeight.cells)), (20, i6 (a1.length : Int)), (21, i6 0)] [⟨3, [(TSpace.lit a0)], 0, none⟩, ⟨6, [GF_c0], 0, none⟩, ⟨6, [(TWeight.lit t4_1)], 0, none⟩] (by decide) (by decide) ⟨.ptr rfl, .ptr rfl, .ptr rfl, .free rfl rfl, .free rfl rfl, .free rfl rfl, trivial⟩ ⟨⟨_, rfl, bcBox (all2_free rfl)⟩, ⟨_, rfl, bcBox (all2_free rfl)⟩, ⟨_, rfl, bcBox (all2_free rfl)⟩, trivial⟩ ?_
    obtain ⟨o1, hL1, h⟩ := h
    refine .loopB (weight_Extend.b1 a0 a1) (fun (x1, x2, x3, x4, x5, x6, x7) => listEnv [(2, .ptr 0 1 3 0 0), (4, .ptr 1 1 6 0 0), (7, .ptr 2 1 6 0 0), (19, .rows (a1.map TWeight.cells)), (20, i6 (a1.length : Int)), (21, i6 x7)]) (fun (x1, x2, x3, x4, x5, x6, x7) => [⟨3, [(TSpace.lit a0)], 0, none⟩, ⟨6, [GF_c0], 0, none⟩, ⟨6, [[bo x1, i6 x2, u6 x3, .rows (x4.map (cInt .u64)), .rows (x5.map TCell.cells), .rows (x6.map TWeight.cells)]], 0, none⟩]) (fun (x8, x9, x10, x11, x12, x13) => listEnv [(4, .ptr 0 1 6 0 0), (7, .ptr 1 1 6 0 0)]) (fun (x8, x9, x10, x11, x12, x13) => [⟨6, [GF_c0], 0, none⟩, ⟨6, [[bo x8, i6 x9, u6 x10, .rows (x11.map (cInt .u64)), .rows (x12.map TCell.cells), .rows (x13.map TWeight.cells)]], 0, none⟩]) hL1 (fun r_ => r = r_) ?_ ?_ ?_
    · rintro ⟨x8, x9, x10, x11, x12, x13⟩ rfl
      try dsimp only [Fin.on] at h
      refine .seq ?_
      obtain ⟨t18_1, g18_1, h⟩ := h
      refine .reg0 rfl (.o (ldG rfl sz39 ag39 rfl) <| .c rfl go54 rfl rfl rfl (weight_copied.D g18_1) <| .o (stB (cs0 := GF_c0) (cs := (TWeight.lit t18_1)) (cs1 := (TWeight.lit t18_1)) rfl rfl sz39 rfl ⟨Nat.le_of_ble_eq_true rfl, rfl⟩ rfl) <| .a rfl <| .nil0) ?_
      replace h := h.symm
      subst h
      refine .k [(4, .cptr (TWeight.lit t18_1) 0), (5, i6 0)] ⟨cFixP rfl rfl (.cons (.free rfl rfl) <| .cons (.free rfl rfl) <| .cons (.free rfl rfl) <| .cons (.free rfl rfl) <| .cons (.free rfl rfl) <| .cons (.free rfl rfl) <| .nil), .free rfl rfl, trivial⟩ ?_
      exact .ret rfl
    · rintro r_ rfl
      exact h
    · rintro ⟨x1, x2, x3, x4, x5, x6, x7⟩ z1 h hn1 hx1 hr1
      dsimp only [weight_Extend.b1] at h
      refine .seq <| .reg0 rfl (.op 0 rfl (ltI rfl rfl) <| .nil0) <| .seq ?_
      by_cases c4 : x7 < (a1.length : Int)
      · rw [if_pos c4] at h
        refine .condT rfl (dt c4) <| .skip <| .seq <| .block <| .seq ?_
        obtain ⟨g15_0, h⟩ := h
        refine .room 0 <| .reg0 rfl (.op 0 rfl (ixR (l := a1) (lit := TWeight.lit) sl37 rfl rfl TWeight.cells_lit g15_0.1 g15_0.2) <| .op 0 rfl (ldCG rfl sz39 ag39 rfl) <| .op 3 rfl (alP (s := 6) ze39 ⟨rfl, by decide, rfl⟩ rfl) <| .op 0 rfl (stB (cs0 := GF_c0) (cs := (TWeight.lit (rdl a1 x7))) (cs1 := (TWeight.lit (rdl a1 x7))) rfl rfl sz39 rfl ⟨Nat.le_of_ble_eq_true rfl, rfl⟩ rfl) <| .nil0) ?_
        obtain ⟨t16_3, g16_3, h⟩ := h
        refine .reg0 rfl (.o (ldG rfl sz25 ag25 rfl) <| .o (ldG rfl sz39 ag39 rfl) <| .o (ldG rfl sz39 ag39 rfl) <| .c rfl go53 rfl rfl rfl (weight_then.D g16_3) <| .o (stB (cs0 := [bo x1, i6 x2, u6 x3, .rows (x4.map (cInt .u64)), .rows (x5.map TCell.cells), .rows (x6.map TWeight.cells)]) (cs := (TWeight.lit t16_3)) (cs1 := (TWeight.lit t16_3)) rfl rfl sz39 rfl ⟨Nat.le_of_ble_eq_true rfl, rfl⟩ rfl) <| .nil0) ?_
        refine .inBlock <| .reg0 rfl (.op 0 rfl (addI rfl rfl) <| .op 0 rfl (mvV rfl) <| .nil0) <| .keepL [0, 1, 2] [(2, .ptr 0 1 3 0 0), (4, .ptr 1 1 6 0 0), (7, .ptr 2 1 6 0 0), (19, .rows (a1.map TWeight.cells)), (20, i6 (a1.length : Int)), (21, i6 (IntKind.i64.wrap (x7 + 1)))] [⟨3, [(TSpace.lit a0)], 0, none⟩, ⟨6, [GF_c0], 0, none⟩, ⟨6, [(TWeight.lit t16_3)], 0, none⟩] (by decide) (by decide) ⟨.ptr rfl, .ptr rfl, .ptr rfl, .free rfl rfl, .free rfl rfl, .free rfl rfl, trivial⟩ ⟨⟨_, rfl, bcBox (all2_free rfl)⟩, ⟨_, rfl, bcBox (all2_free rfl)⟩, ⟨_, rfl, bcBox (all2_free rfl)⟩, trivial⟩ ?_
        exact hn1 _ h
      · rw [if_neg c4] at h
        refine .condF rfl (df c4) <| .exit rfl <| .keepL [1, 2] [(4, .ptr 0 1 6 0 0), (7, .ptr 1 1 6 0 0)] [⟨6, [GF_c0], 0, none⟩, ⟨6, [[bo x1, i6 x2, u6 x3, .rows (x4.map (cInt .u64)), .rows (x5.map TCell.cells), .rows (x6.map TWeight.cells)]], 0, none⟩] (by decide) (by decide) ⟨.ptr rfl, .ptr rfl, trivial⟩ ⟨⟨_, rfl, bcBox (all2_free rfl)⟩, ⟨_, rfl, bcBox (all2_free rfl)⟩, trivial⟩ ?_
        exact hx1 _ h
  · rw [if_neg c1] at h
    refine .condT rfl (nt c1) <| .seq <| .reg0 rfl (.op 0 rfl (bldS (cs := GF_c0) ze39 pl39 rfl rfl) <| .op 0 rfl (mvV rfl) <| .op 0 rfl (stB (cs0 := GF_c0) (cs := GF_c0) (cs1 := GF_c0) rfl rfl sz39 rfl ⟨Nat.le_of_ble_eq_true rfl, rfl⟩ rfl) <| .op 0 rfl (asV rfl) <| .nil0) ?_
    replace h := h.symm
    subst h
    refine .k [(4, .cptr GF_c1 0), (5, i6 t2_2)] ⟨cFixP rfl rfl (.cons (.free rfl rfl) <| .cons (.free rfl rfl) <| .cons (.free rfl rfl) <| .cons (.nil) <| .cons (.nil) <| .cons (.nil) <| .nil), .free rfl rfl, trivial⟩ ?_
    exact .ret rfl
def steps_Run.j1 (a0 : TPds) (a2 : List Int) (x3 : Bool) (x4 : Int) (x5 : Int) (x6 : List Int) (x7 : List TCell) (x8 : List TWeight) (x11 : Int) (t70_6 : TConf × Bool × Int) : Int → (Rnd ((Bool × Int × Int × (List Int) × (List TCell) × (List TWeight) × Int × (List Int) × Int)) ((Bool × Int × Int × (List Int) × (List TCell) × (List TWeight) × Int × (List Int))) (TConf × TWeight × Int × Int)) → Prop := fun x23 z1 => if x23 = 0 then (((InR (rdl a2 x11) a0.Rules.length)) ∧ ∃ t75_10 : TWeight × Int, (weight_Extend.f a0.Space [(TWeight.mk x3 x4 (TFacts.mk x5 x6) x7 x8), (rdl a0.Rules (rdl a2 x11)).F] t75_10) ∧ z1 = .next (t75_10.1.Zero, t75_10.1.Cost, t75_10.1.Facts.Gen, t75_10.1.Facts.Rows, t75_10.1.Cells, t75_10.1.Parts, t70_6.1.P, t70_6.1.W, (IntKind.i64.wrap (x11 + 1)))) else (z1 = .ret ((TConf.mk 0 []), (TWeight.mk false 0 (TFacts.mk 0 []) [] []), x11, x23))
def steps_Run.b1 (a0 : TPds) (a2 : List Int) : (Bool × Int × Int × (List Int) × (List TCell) × (List TWeight) × Int × (List Int) × Int) → Rnd ((Bool × Int × Int × (List Int) × (List TCell) × (List TWeight) × Int × (List Int) × Int)) ((Bool × Int × Int × (List Int) × (List TCell) × (List TWeight) × Int × (List Int))) (TConf × TWeight × Int × Int) → Prop := fun (x3, x4, x5, x6, x7, x8, x9, x10, x11) z1 => if x11 < (a2.length : Int) then (((InR x11 a2.length)) ∧ if ((decide ((rdl a2 x11) < 0)) || (decide ((rdl a2 x11) ≥ (a0.Rules.length : Int)))) = true then (z1 = .ret ((TConf.mk 0 []), (TWeight.mk false 0 (TFacts.mk 0 []) [] []), x11, 5)) else (((InR (rdl a2 x11) a0.Rules.length)) ∧ ∃ t70_6 : TConf × Bool × Int, (steps_next.f (rdl a0.Rules (rdl a2 x11)) (TConf.mk x9 x10) t70_6) ∧ if t70_6.2.1 = true then (steps_Run.j1 a0 a2 x3 x4 x5 x6 x7 x8 x11 t70_6 t70_6.2.2 z1) else (steps_Run.j1 a0 a2 x3 x4 x5 x6 x7 x8 x11 t70_6 121 z1))) else (z1 = .exit (x3, x4, x5, x6, x7, x8, x9, x10))
def steps_Run.f (a0 : TPds) (a1 : TConf) (a2 : List Int) (r : TConf × TWeight × Int × Int) : Prop :=
  ∃ t2_2 : Int, (steps_Check.f a0 a1 t2_2) ∧ if t2_2 = 0 then (∃ t4_2 : TWeight × Int, (weight_One.f a0.Space t4_2) ∧ ∃ t5_4 : (List Int), (slices_Clone_int.f a1.W t5_4) ∧ ∃ o1 : Fin ((Bool × Int × Int × (List Int) × (List TCell) × (List TWeight) × Int × (List Int))) (TConf × TWeight × Int × Int), Loop (steps_Run.b1 a0 a2) (t4_2.1.Zero, t4_2.1.Cost, t4_2.1.Facts.Gen, t4_2.1.Facts.Rows, t4_2.1.Cells, t4_2.1.Parts, a1.P, t5_4, 0) o1 ∧ o1.on (fun (x14, x15, x16, x17, x18, x19, x20, x21) => r = ((TConf.mk x20 x21), (TWeight.mk x14 x15 (TFacts.mk x16 x17) x18 x19), 0, 0)) (fun r_ => r = r_)) else (r = ((TConf.mk 0 []), (TWeight.mk false 0 (TFacts.mk 0 []) [] []), 0, t2_2))
theorem steps_Run.D {a0 a1 a2 r} (h : steps_Run.f a0 a1 a2 r) : D Tryz.prog X (.callH 8 [.agg (TPds.lit a0), .agg (TConf.lit a1), .rows (a2.map (cInt .i64))] [] (.tuple [.agg (TConf.lit r.1), .agg (TWeight.lit r.2.1), .val (.int .i64 r.2.2.1), .val (.int .i64 r.2.2.2)]) []) := by
  unfold steps_Run.f at h
  refine .enter 95 0 fn8 rfl rfl rfl <| .seq <| .room 0 <| .room 0 <| .room 0 <| .room 0 <| .reg0 rfl (.op 0 rfl (bxP (s := 6) (cs := (TPds.lit a0)) rfl ⟨rfl, by decide, rfl⟩ rfl) <| .op 1 rfl (bxP (s := 2) (cs := (TConf.lit a1)) rfl ⟨rfl, by decide, rfl⟩ rfl) <| .op 2 rfl (alP (s := 2) ze31 ⟨rfl, by decide, rfl⟩ rfl) <| .op 3 rfl (alP (s := 6) ze39 ⟨rfl, by decide, rfl⟩ rfl) <| .op 0 rfl (asV rfl) <| .op 0 rfl (asV rfl) <| .nil0) ?_
  refine .seq <| .seq ?_
  obtain ⟨t2_2, g2_2, h⟩ := h
  refine .reg0 rfl (.o (ldG rfl sz28 ag28 rfl) <| .o (ldG rfl sz31 ag31 rfl) <| .c rfl go20 rfl rfl rfl (steps_Check.D g2_2) <| .a rfl <| .nil0) <| .seq <| .reg0 rfl (.op 0 rfl (mvV rfl) <| .op 0 rfl (neI rfl rfl) <| .nil0) ?_
  by_cases c1 : t2_2 = 0
  · rw [if_pos c1] at h
    refine .condF rfl (nf c1) <| .skip <| .seq ?_
    obtain ⟨t4_2, g4_2, h⟩ := h
    refine .room 0 <| .reg0 rfl (.op 0 rfl (faP fa28_0 rfl) <| .op 0 rfl (ldG rfl sz25 ag25 rfl) <| .callI rfl (callee_of rfl go26 rfl) (.pure rfl rfl (weight_One.D g4_2)) <| .op 0 rfl (mvT rfl) <| .op 0 rfl (exT rfl rfl) <| .op 0 rfl (exT rfl rfl) <| .op 4 rfl (alP (s := 6) ze39 ⟨rfl, by decide, rfl⟩ rfl) <| .op 0 rfl (stB (cs0 := GF_c0) (cs := (TWeight.lit t4_2.1)) (cs1 := (TWeight.lit t4_2.1)) rfl rfl sz39 rfl ⟨Nat.le_of_ble_eq_true rfl, rfl⟩ rfl) <| .op 0 rfl (asV rfl) <| .nil0) ?_
    refine .seq ?_
    obtain ⟨t5_4, g5_4, h⟩ := h
    refine .room 0 ?_
    refine .reg1 (e1 := listEnv [(2, .rows (a2.map (cInt .i64))), (3, .ptr 0 1 6 0 0), (6, .ptr 2 1 2 0 0), (7, .ptr 3 1 6 0 0), (11, .ptr 4 1 6 0 0), (13, .ptr 5 1 2 0 0)]) (H1 := [⟨6, [(TPds.lit a0)], 0, none⟩, ⟨2, [(TConf.lit a1)], 0, none⟩, ⟨2, [[i6 0, nul]], 0, none⟩, ⟨6, [GF_c0], 0, none⟩, ⟨6, [(TWeight.lit t4_2.1)], 0, none⟩, ⟨2, [[i6 a1.P, .rows (t5_4.map (cInt .i64))]], 0, none⟩]) rfl ?_ ?_
    · exact .drawM [(6, 13, .ptr 5 1 2 0 0), (5, 38, .agg [i6 a1.P, .rows (t5_4.map (cInt .i64))]), (4, 37, .rows (t5_4.map (cInt .i64))), (3, 36, .rows (a1.W.map (cInt .i64))), (2, 35, .ptr 1 1 2 0 1), (1, 34, i6 a1.P), (0, 33, .ptr 1 1 2 0 0)] [(7, 5, ⟨2, [[i6 a1.P, .rows (t5_4.map (cInt .i64))]], 0, none⟩), (6, 5, ⟨2, [[i6 0, nul]], 0, none⟩)] [[], [0], [], [2], [3, 2], [1, 0, 4, 3, 2], [], [6, 5, 1, 0, 4, 3, 2]] (by rfl) (by rfl) (by rfl) (by exact ⟨oP (fun _ => faP fa31_0 rfl) rfl, oP (fun _ => ldP rfl sz3 ag3 rfl) rfl, oP (fun _ => faP fa31_1 rfl) rfl, oP (fun _ => ldP rfl sz29 ag29 rfl) rfl, fun S hS hD hn => .oneI hS hD hn rfl rfl (callee_of rfl go27 rfl) (.pure rfl rfl (slices_Clone_int.D g5_4)) rfl rfl rfl, oP (fun _ => bldS (cs := [i6 a1.P, .rows (t5_4.map (cInt .i64))]) ze31 pl31 rfl rfl) rfl, oW 5 (fun _ => alP (s := 2) ze31 ⟨rfl, by decide, rfl⟩ rfl) rfl fun _ => rfl, fun S hS hD hn => .one0 0 rfl rfl (stB (cs0 := [i6 0, nul]) (cs := [i6 a1.P, .rows (t5_4.map (cInt .i64))]) (cs1 := [i6 a1.P, .rows (t5_4.map (cInt .i64))]) rfl rfl sz31 rfl ⟨Nat.le_of_ble_eq_true rfl, rfl⟩ rfl) (drawE_other _ _ _ _ rfl) rfl, trivial⟩) _ (by exact ⟨.free rfl rfl, .ptr rfl, .ptr rfl, .ptr rfl, .ptr rfl, .ptr rfl, trivial⟩) (by rfl)
    refine .seq <| .seq <| .reg0 rfl (.op 0 rfl (mvR rfl) <| .op 0 rfl (lnR (l := a2) sl29 rfl) <| .op 0 rfl (mvV rfl) <| .nil0) <| .block <| .keepL [0, 2, 3, 4, 5] [(3, .ptr 0 1 6 0 0), (6, .ptr 1 1 2 0 0), (7, .ptr 2 1 6 0 0), (11, .ptr 3 1 6 0 0), (13, .ptr 4 1 2 0 0), (39, .rows (a2.map (cInt .i64))), (40, i6 (a2.length : Int)), (41, i6 0)] [⟨6, [(TPds.lit a0)], 0, none⟩, ⟨2, [[i6 0, nul]], 0, none⟩, ⟨6, [GF_c0], 0, none⟩, ⟨6, [(TWeight.lit t4_2.1)], 0, none⟩, ⟨2, [[i6 a1.P, .rows (t5_4.map (cInt .i64))]], 0, none⟩] (by decide) (by decide) ⟨.ptr rfl, .ptr rfl, .ptr rfl, .ptr rfl, .ptr rfl, .free rfl rfl, .free rfl rfl, .free rfl rfl, trivial⟩ ⟨⟨_, rfl, bcBox (all2_free rfl)⟩, ⟨_, rfl, bcBox (all2_free rfl)⟩, ⟨_, rfl, bcBox (all2_free rfl)⟩, ⟨_, rfl, bcBox (all2_free rfl)⟩, ⟨_, rfl, bcBox (all2_free rfl)⟩, trivial⟩ ?_
    obtain ⟨o1, hL1, h⟩ := h
    refine .loopB (steps_Run.b1 a0 a2) (fun (x3, x4, x5, x6, x7, x8, x9, x10, x11) => listEnv [(3, .ptr 0 1 6 0 0), (6, .ptr 1 1 2 0 0), (7, .ptr 2 1 6 0 0), (11, .ptr 3 1 6 0 0), (13, .ptr 4 1 2 0 0), (39, .rows (a2.map (cInt .i64))), (40, i6 (a2.length : Int)), (41, i6 x11)]) (fun (x3, x4, x5, x6, x7, x8, x9, x10, x11) => [⟨6, [(TPds.lit a0)], 0, none⟩, ⟨2, [[i6 0, nul]], 0, none⟩, ⟨6, [GF_c0], 0, none⟩, ⟨6, [[bo x3, i6 x4, u6 x5, .rows (x6.map (cInt .u64)), .rows (x7.map TCell.cells), .rows (x8.map TWeight.cells)]], 0, none⟩, ⟨2, [[i6 x9, .rows (x10.map (cInt .i64))]], 0, none⟩]) (fun (x14, x15, x16, x17, x18, x19, x20, x21) => listEnv [(6, .ptr 0 1 2 0 0), (7, .ptr 1 1 6 0 0), (11, .ptr 2 1 6 0 0), (13, .ptr 3 1 2 0 0)]) (fun (x14, x15, x16, x17, x18, x19, x20, x21) => [⟨2, [[i6 0, nul]], 0, none⟩, ⟨6, [GF_c0], 0, none⟩, ⟨6, [[bo x14, i6 x15, u6 x16, .rows (x17.map (cInt .u64)), .rows (x18.map TCell.cells), .rows (x19.map TWeight.cells)]], 0, none⟩, ⟨2, [[i6 x20, .rows (x21.map (cInt .i64))]], 0, none⟩]) hL1 (fun r_ => r = r_) ?_ ?_ ?_
    · rintro ⟨x14, x15, x16, x17, x18, x19, x20, x21⟩ rfl
      try dsimp only [Fin.on] at h
      refine .seq ?_
      refine .reg1 (e1 := listEnv [(6, .ptr 0 1 2 0 0), (7, .ptr 1 1 6 0 0), (8, i6 0), (9, i6 0)]) (H1 := [⟨2, [[i6 x20, .rows (x21.map (cInt .i64))]], 0, none⟩, ⟨6, [[bo x14, i6 x15, u6 x16, .rows (x17.map (cInt .u64)), .rows (x18.map TCell.cells), .rows (x19.map TWeight.cells)]], 0, none⟩, ⟨6, [[bo x14, i6 x15, u6 x16, .rows (x17.map (cInt .u64)), .rows (x18.map TCell.cells), .rows (x19.map TWeight.cells)]], 0, none⟩, ⟨2, [[i6 x20, .rows (x21.map (cInt .i64))]], 0, none⟩]) rfl ?_ ?_
      · exact .drawM [(5, 9, i6 0), (4, 8, i6 0), (1, 94, .agg [bo x14, i6 x15, u6 x16, .rows (x17.map (cInt .u64)), .rows (x18.map TCell.cells), .rows (x19.map TWeight.cells)]), (0, 93, .agg [i6 x20, .rows (x21.map (cInt .i64))])] [(3, 1, ⟨6, [[bo x14, i6 x15, u6 x16, .rows (x17.map (cInt .u64)), .rows (x18.map TCell.cells), .rows (x19.map TWeight.cells)]], 0, none⟩), (2, 0, ⟨2, [[i6 x20, .rows (x21.map (cInt .i64))]], 0, none⟩)] [[], [], [0], [1, 2, 0], [3, 1, 2, 0], [4, 3, 1, 2, 0]] (by rfl) (by rfl) (by rfl) (by exact ⟨oP (fun _ => ldG rfl sz31 ag31 rfl) rfl, oP (fun _ => ldG rfl sz39 ag39 rfl) rfl, fun S hS hD hn => .one0 0 rfl rfl (stB (cs0 := [i6 0, nul]) (cs := [i6 x20, .rows (x21.map (cInt .i64))]) (cs1 := [i6 x20, .rows (x21.map (cInt .i64))]) rfl rfl sz31 rfl ⟨Nat.le_of_ble_eq_true rfl, rfl⟩ rfl) (drawE_other _ _ _ _ rfl) rfl, fun S hS hD hn => .one0 0 rfl rfl (stB (cs0 := GF_c0) (cs := [bo x14, i6 x15, u6 x16, .rows (x17.map (cInt .u64)), .rows (x18.map TCell.cells), .rows (x19.map TWeight.cells)]) (cs1 := [bo x14, i6 x15, u6 x16, .rows (x17.map (cInt .u64)), .rows (x18.map TCell.cells), .rows (x19.map TWeight.cells)]) rfl rfl sz39 rfl ⟨Nat.le_of_ble_eq_true rfl, rfl⟩ rfl) (drawE_other _ _ _ _ rfl) rfl, oP (fun _ => asV rfl) rfl, oP (fun _ => asV rfl) rfl, trivial⟩) _ (by exact ⟨.ptr rfl, .ptr rfl, .free rfl rfl, .free rfl rfl, trivial⟩) (by rfl)
      replace h := h.symm
      subst h
      refine .k [(6, .cptr [i6 x20, .rows (x21.map (cInt .i64))] 0), (7, .cptr [bo x14, i6 x15, u6 x16, .rows (x17.map (cInt .u64)), .rows (x18.map TCell.cells), .rows (x19.map TWeight.cells)] 0), (8, i6 0), (9, i6 0)] ⟨cFixP rfl rfl (.cons (.free rfl rfl) <| .cons (.free rfl rfl) <| .nil), cFixP rfl rfl (.cons (.free rfl rfl) <| .cons (.free rfl rfl) <| .cons (.free rfl rfl) <| .cons (.free rfl rfl) <| .cons (.free rfl rfl) <| .cons (.free rfl rfl) <| .nil), .free rfl rfl, .free rfl rfl, trivial⟩ ?_
      exact .ret rfl
    · rintro r_ rfl
      exact h
    · rintro ⟨x3, x4, x5, x6, x7, x8, x9, x10, x11⟩ z1 h hn1 hx1 hr1
      dsimp only [steps_Run.b1] at h
      refine .seq <| .reg0 rfl (.op 0 rfl (ltI rfl rfl) <| .nil0) <| .seq ?_
      by_cases c24 : x11 < (a2.length : Int)
      · rw [if_pos c24] at h
        refine .condT rfl (dt c24) <| .skip <| .seq <| .block <| .seq ?_
        obtain ⟨g67_1, h⟩ := h
        refine .reg0 rfl (.m rfl <| .o (ixR (l := a2) (lit := (cInt .i64)) sl29 rfl rfl (fun _ => rfl) g67_1.1 g67_1.2) <| .o (ldC rfl sz3 ag3 rfl) <| .a rfl <| .a rfl <| .nil0) <| .seq <| .seq ?_
        refine .reg0 (e1 := listEnv [(3, .ptr 0 1 6 0 0), (6, .ptr 1 1 2 0 0), (7, .ptr 2 1 6 0 0), (11, .ptr 3 1 6 0 0), (13, .ptr 4 1 2 0 0), (14, i6 x11), (15, i6 (rdl a2 x11)), (39, .rows (a2.map (cInt .i64))), (40, i6 (a2.length : Int)), (41, i6 x11), (54, bo ((decide ((rdl a2 x11) < 0)) || (decide ((rdl a2 x11) ≥ (a0.Rules.length : Int)))))]) (H1 := [⟨6, [(TPds.lit a0)], 0, none⟩, ⟨2, [[i6 0, nul]], 0, none⟩, ⟨6, [GF_c0], 0, none⟩, ⟨6, [[bo x3, i6 x4, u6 x5, .rows (x6.map (cInt .u64)), .rows (x7.map TCell.cells), .rows (x8.map TWeight.cells)]], 0, none⟩, ⟨2, [[i6 x9, .rows (x10.map (cInt .i64))]], 0, none⟩]) rfl ?_ ?_
        · refine .m rfl <| .o (ltI rfl rfl) <| .m rfl <| ?_
          by_cases c30 : (rdl a2 x11) < 0
          · exact (.n rfl (dt c30) <| .n rfl (dt c30) <| .n rfl (dt c30) <| .n rfl (dt c30) <| .n rfl (dt c30) <| .o (pkTV rfl (dt c30) rfl) <| .nilL _ ⟨.ptr rfl, .ptr rfl, .ptr rfl, .ptr rfl, .ptr rfl, .free rfl rfl, .free rfl rfl, .free rfl rfl, .free rfl rfl, .free rfl rfl, cB rfl (mOrT (dt c30)), trivial⟩)
          · exact (.g rfl (df c30) (mvV rfl) <| .g rfl (df c30) (faP fa28_3 rfl) <| .g rfl (df c30) (ldP rfl sz26 ag26 rfl) <| .g rfl (df c30) (lnR (l := a0.Rules) sl26 rfl) <| .g rfl (df c30) (geI rfl rfl) <| .o (pkFV rfl (df c30) rfl) <| .nilL _ ⟨.ptr rfl, .ptr rfl, .ptr rfl, .ptr rfl, .ptr rfl, .free rfl rfl, .free rfl rfl, .free rfl rfl, .free rfl rfl, .free rfl rfl, cB rfl (mOrF (df c30) rfl), trivial⟩)
        by_cases c31 : ((decide ((rdl a2 x11) < 0)) || (decide ((rdl a2 x11) ≥ (a0.Rules.length : Int)))) = true
        · rw [if_pos c31] at h
          refine .condT rfl c31 <| .seq <| .reg0 rfl (.op 0 rfl (bldS (cs := [i6 0, nul]) ze31 pl31 rfl rfl) <| .op 0 rfl (bldS (cs := GF_c0) ze39 pl39 rfl rfl) <| .op 0 rfl (mvV rfl) <| .op 0 rfl (stB (cs0 := [i6 0, nul]) (cs := [i6 0, nul]) (cs1 := [i6 0, nul]) rfl rfl sz31 rfl ⟨Nat.le_of_ble_eq_true rfl, rfl⟩ rfl) <| .op 0 rfl (stB (cs0 := GF_c0) (cs := GF_c0) (cs1 := GF_c0) rfl rfl sz39 rfl ⟨Nat.le_of_ble_eq_true rfl, rfl⟩ rfl) <| .op 0 rfl (asV rfl) <| .op 0 rfl (asV rfl) <| .nil0) ?_
          have q11 := hr1 _ h
          replace q11 := q11.symm
          subst q11
          refine .k [(6, .cptr GF_c2 0), (7, .cptr GF_c1 0), (8, i6 x11), (9, i6 5)] ⟨cFixP rfl rfl (.cons (.free rfl rfl) <| .cons (.nil) <| .nil), cFixP rfl rfl (.cons (.free rfl rfl) <| .cons (.free rfl rfl) <| .cons (.free rfl rfl) <| .cons (.nil) <| .cons (.nil) <| .cons (.nil) <| .nil), .free rfl rfl, .free rfl rfl, trivial⟩ ?_
          exact .ret rfl
        · rw [if_neg c31] at h
          refine .condF rfl (nb c31) <| .skip <| .seq ?_
          obtain ⟨g70_3, h⟩ := h
          obtain ⟨t70_6, g70_6, h⟩ := h
          refine .room 0 ?_
          refine .reg1 (e1 := listEnv [(3, .ptr 0 1 6 0 0), (6, .ptr 1 1 2 0 0), (7, .ptr 2 1 6 0 0), (11, .ptr 3 1 6 0 0), (13, .ptr 4 1 2 0 0), (14, i6 x11), (15, i6 (rdl a2 x11)), (16, .ptr 5 1 2 0 0), (17, bo t70_6.2.1), (18, i6 t70_6.2.2), (39, .rows (a2.map (cInt .i64))), (40, i6 (a2.length : Int)), (41, i6 x11)]) (H1 := [⟨6, [(TPds.lit a0)], 0, none⟩, ⟨2, [[i6 0, nul]], 0, none⟩, ⟨6, [GF_c0], 0, none⟩, ⟨6, [[bo x3, i6 x4, u6 x5, .rows (x6.map (cInt .u64)), .rows (x7.map TCell.cells), .rows (x8.map TWeight.cells)]], 0, none⟩, ⟨2, [[i6 x9, .rows (x10.map (cInt .i64))]], 0, none⟩, ⟨2, [(TConf.lit t70_6.1)], 0, none⟩]) rfl ?_ ?_
          · exact .drawM [(14, 18, i6 t70_6.2.2), (13, 17, bo t70_6.2.1), (11, 16, .ptr 5 1 2 0 0), (10, 68, i6 t70_6.2.2), (9, 67, bo t70_6.2.1), (8, 66, .agg (TConf.lit t70_6.1)), (7, 58, .tuple [.agg (TConf.lit t70_6.1), bo t70_6.2.1, i6 t70_6.2.2]), (6, 65, .tuple [.agg (TConf.lit t70_6.1), bo t70_6.2.1, i6 t70_6.2.2]), (5, 64, .agg [i6 x9, .rows (x10.map (cInt .i64))]), (4, 63, .agg (TRule.lit (rdl a0.Rules (rdl a2 x11)))), (3, 62, .cptr (TRule.lit (rdl a0.Rules (rdl a2 x11))) 0), (2, 61, i6 (rdl a2 x11)), (1, 60, .rows (a0.Rules.map TRule.cells)), (0, 59, .ptr 0 1 6 0 5)] [(12, 5, ⟨2, [(TConf.lit t70_6.1)], 0, none⟩), (11, 5, ⟨2, [[i6 0, nul]], 0, none⟩)] [[], [0], [], [1, 0, 2], [3, 1, 0, 2], [], [4, 3, 1, 0, 2, 5], [6, 4, 3, 1, 0, 2, 5], [7, 6, 4, 3, 1, 0, 2, 5], [7, 6, 4, 3, 1, 0, 2, 5], [7, 6, 4, 3, 1, 0, 2, 5], [], [11, 8, 7, 6, 4, 3, 1, 0, 2, 5], [9, 7, 6, 4, 3, 1, 0, 2, 5, 12, 11, 8], [10, 7, 6, 4, 3, 1, 0, 2, 5, 13, 9, 12, 11, 8]] (by rfl) (by rfl) (by rfl) (by exact ⟨oP (fun _ => faP fa28_3 rfl) rfl, oP (fun _ => ldP rfl sz26 ag26 rfl) rfl, oP (fun _ => mvV rfl) rfl, oP (fun _ => ixR (l := a0.Rules) (lit := TRule.lit) sl26 rfl rfl (fun _ => rfl) g70_3.1 g70_3.2) rfl, oP (fun _ => ldCG rfl sz70 ag70 rfl) rfl, oP (fun _ => ldG rfl sz31 ag31 rfl) rfl, fun S hS hD hn => .oneI hS hD hn rfl rfl (callee_of rfl go28 rfl) (.pure rfl rfl (steps_next.D g70_6)) rfl rfl rfl, oP (fun _ => mvT rfl) rfl, oP (fun _ => exT rfl rfl) rfl, oP (fun _ => exT rfl rfl) rfl, oP (fun _ => exT rfl rfl) rfl, oW 5 (fun _ => alP (s := 2) ze31 ⟨rfl, by decide, rfl⟩ rfl) rfl fun _ => rfl, fun S hS hD hn => .one0 0 rfl rfl (stB (cs0 := [i6 0, nul]) (cs := (TConf.lit t70_6.1)) (cs1 := (TConf.lit t70_6.1)) rfl rfl sz31 rfl ⟨Nat.le_of_ble_eq_true rfl, rfl⟩ rfl) (drawE_other _ _ _ _ rfl) rfl, oP (fun _ => asV rfl) rfl, oP (fun _ => asV rfl) rfl, trivial⟩) _ (by exact ⟨.ptr rfl, .ptr rfl, .ptr rfl, .ptr rfl, .ptr rfl, .free rfl rfl, .free rfl rfl, .ptr rfl, .free rfl rfl, .free rfl rfl, .free rfl rfl, .free rfl rfl, .free rfl rfl, trivial⟩) (by rfl)
          refine .seq <| .seq <| .reg0 rfl (.op 0 rfl (mvV rfl) <| .op 0 rfl (notB rfl) <| .nil0) ?_
          refine .consJ (fun s_ => steps_Run.j1 a0 a2 x3 x4 x5 x6 x7 x8 x11 t70_6 s_ z1) (fun x23 => listEnv [(3, .ptr 0 1 6 0 0), (6, .ptr 1 1 2 0 0), (7, .ptr 2 1 6 0 0), (11, .ptr 3 1 6 0 0), (13, .ptr 4 1 2 0 0), (14, i6 x11), (15, i6 (rdl a2 x11)), (16, .ptr 5 1 2 0 0), (18, i6 x23), (39, .rows (a2.map (cInt .i64))), (40, i6 (a2.length : Int)), (41, i6 x11)]) (fun x23 => [⟨6, [(TPds.lit a0)], 0, none⟩, ⟨2, [[i6 0, nul]], 0, none⟩, ⟨6, [GF_c0], 0, none⟩, ⟨6, [[bo x3, i6 x4, u6 x5, .rows (x6.map (cInt .u64)), .rows (x7.map TCell.cells), .rows (x8.map TWeight.cells)]], 0, none⟩, ⟨2, [[i6 x9, .rows (x10.map (cInt .i64))]], 0, none⟩, ⟨2, [(TConf.lit t70_6.1)], 0, none⟩]) ?_ fun hJ1 => ?_
          · rintro x23 h
            unfold steps_Run.j1 at h
            try dsimp only at h
            refine .seq <| .seq <| .reg0 rfl (.op 0 rfl (mvV rfl) <| .op 0 rfl (neI rfl rfl) <| .nil0) ?_
            by_cases c33 : x23 = 0
            · rw [if_pos c33] at h
              refine .condF rfl (nf c33) <| .skip <| .seq <| .reg0 rfl (.op 0 rfl (ldG rfl sz31 ag31 rfl) <| .op 0 rfl (stB (cs0 := [i6 x9, .rows (x10.map (cInt .i64))]) (cs := (TConf.lit t70_6.1)) (cs1 := (TConf.lit t70_6.1)) rfl rfl sz31 rfl ⟨Nat.le_of_ble_eq_true rfl, rfl⟩ rfl) <| .nil0) ?_
              obtain ⟨g75_6, h⟩ := h
              obtain ⟨t75_10, g75_10, h⟩ := h
              refine .room 0 ?_
              refine .reg1 (e1 := listEnv [(3, .ptr 0 1 6 0 0), (6, .ptr 1 1 2 0 0), (7, .ptr 2 1 6 0 0), (11, .ptr 3 1 6 0 0), (13, .ptr 4 1 2 0 0), (39, .rows (a2.map (cInt .i64))), (40, i6 (a2.length : Int)), (41, i6 x11)]) (H1 := [⟨6, [(TPds.lit a0)], 0, none⟩, ⟨2, [[i6 0, nul]], 0, none⟩, ⟨6, [GF_c0], 0, none⟩, ⟨6, [(TWeight.lit t75_10.1)], 0, none⟩, ⟨2, [(TConf.lit t70_6.1)], 0, none⟩, ⟨2, [(TConf.lit t70_6.1)], 0, none⟩, ⟨6, [(TWeight.mk x3 x4 (TFacts.mk x5 x6) x7 x8), (rdl a0.Rules (rdl a2 x11)).F].map TWeight.cells, (max 0 ([(TWeight.mk x3 x4 (TFacts.mk x5 x6) x7 x8), (rdl a0.Rules (rdl a2 x11)).F].map TWeight.cells : List (List PV)).length), none⟩]) rfl ?_ ?_
              · exact .drawM [(13, 91, i6 t75_10.2), (12, 90, .agg (TWeight.lit t75_10.1)), (11, 78, .tuple [.agg (TWeight.lit t75_10.1), i6 t75_10.2]), (10, 89, .tuple [.agg (TWeight.lit t75_10.1), i6 t75_10.2]), (9, 88, .own 6 ([(TWeight.mk x3 x4 (TFacts.mk x5 x6) x7 x8), (rdl a0.Rules (rdl a2 x11)).F].length)), (8, 87, .agg (TWeight.lit ((rdl a0.Rules (rdl a2 x11)).F))), (7, 86, .cptr (TRule.lit (rdl a0.Rules (rdl a2 x11))) 4), (6, 85, .cptr (TRule.lit (rdl a0.Rules (rdl a2 x11))) 0), (5, 84, i6 (rdl a2 x11)), (4, 83, .rows (a0.Rules.map TRule.cells)), (3, 82, .ptr 0 1 6 0 5), (2, 81, .agg [bo x3, i6 x4, u6 x5, .rows (x6.map (cInt .u64)), .rows (x7.map TCell.cells), .rows (x8.map TWeight.cells)]), (1, 80, .agg (TSpace.lit a0.Space)), (0, 79, .ptr 0 1 6 0 0)] [(14, 3, ⟨6, [(TWeight.lit t75_10.1)], 0, none⟩), (10, 6, ⟨6, [(TWeight.mk x3 x4 (TFacts.mk x5 x6) x7 x8), (rdl a0.Rules (rdl a2 x11)).F].map TWeight.cells, (max 0 ([(TWeight.mk x3 x4 (TFacts.mk x5 x6) x7 x8), (rdl a0.Rules (rdl a2 x11)).F].map TWeight.cells : List (List PV)).length), none⟩), (9, 6, ⟨6, [(TWeight.mk x3 x4 (TFacts.mk x5 x6) x7 x8), (rdl a0.Rules (rdl a2 x11)).F].map TWeight.cells, 0, none⟩)] [[], [0], [], [], [3], [], [4, 3, 5], [6, 4, 3, 5], [7, 6, 4, 3, 5], [2, 8, 7, 6, 4, 3, 5], [1, 0, 9, 2, 8, 7, 6, 4, 3, 5], [10, 1, 0, 9, 2, 8, 7, 6, 4, 3, 5], [11, 10, 1, 0, 9, 2, 8, 7, 6, 4, 3, 5], [11, 10, 1, 0, 9, 2, 8, 7, 6, 4, 3, 5], [12, 11, 10, 1, 0, 9, 2, 8, 7, 6, 4, 3, 5]] (by rfl) (by rfl) (by rfl) (by exact ⟨oP (fun _ => faP fa28_0 rfl) rfl, oP (fun _ => ldG rfl sz25 ag25 rfl) rfl, oP (fun _ => ldG rfl sz39 ag39 rfl) rfl, oP (fun _ => faP fa28_3 rfl) rfl, oP (fun _ => ldP rfl sz26 ag26 rfl) rfl, oP (fun _ => mvV rfl) rfl, oP (fun _ => ixR (l := a0.Rules) (lit := TRule.lit) sl26 rfl rfl (fun _ => rfl) g75_6.1 g75_6.2) rfl, oP (fun _ => faC fa70_4 rfl) rfl, oP (fun _ => ldCG rfl sz39 ag39 rfl) rfl, oW 6 (fun _ => bldT (s := 6) (cs := [bo x3, i6 x4, u6 x5, .rows (x6.map (cInt .u64)), .rows (x7.map TCell.cells), .rows (x8.map TWeight.cells), bo ((rdl a0.Rules (rdl a2 x11)).F.Zero), i6 ((rdl a0.Rules (rdl a2 x11)).F.Cost), u6 ((rdl a0.Rules (rdl a2 x11)).F.Facts.Gen), .rows ((rdl a0.Rules (rdl a2 x11)).F.Facts.Rows.map (cInt .u64)), .rows ((rdl a0.Rules (rdl a2 x11)).F.Cells.map TCell.cells), .rows ((rdl a0.Rules (rdl a2 x11)).F.Parts.map TWeight.cells)]) (cf := TWeight.cells) [(TWeight.mk x3 x4 (TFacts.mk x5 x6) x7 x8), (rdl a0.Rules (rdl a2 x11)).F] un37 sz39 ze39 ⟨by decide, rfl, by decide⟩ rfl rfl rfl (by simp only [List.map, TWeight.cells_lit]; rfl) rfl) rfl fun _ => rfl, fun S hS hD hn => .oneI hS hD hn rfl rfl (callee_of rfl go29 rfl) (.lendC (args' := [.agg (TSpace.lit a0.Space), .rows ([(TWeight.mk x3 x4 (TFacts.mk x5 x6) x7 x8), (rdl a0.Rules (rdl a2 x11)).F].map TWeight.cells)])  [6] true (.cons (.free rfl rfl) <| .cons (cFixO (l := [(TWeight.mk x3 x4 (TFacts.mk x5 x6) x7 x8), (rdl a0.Rules (rdl a2 x11)).F]) sl37 rfl rfl rfl rfl) <| .nil) (by decide) rfl rfl rfl rfl (weight_Extend.D g75_10)) rfl rfl rfl, oP (fun _ => mvT rfl) rfl, oP (fun _ => exT rfl rfl) rfl, oP (fun _ => exT rfl rfl) rfl, fun S hS hD hn => .one0 0 rfl rfl (stB (cs0 := [bo x3, i6 x4, u6 x5, .rows (x6.map (cInt .u64)), .rows (x7.map TCell.cells), .rows (x8.map TWeight.cells)]) (cs := (TWeight.lit t75_10.1)) (cs1 := (TWeight.lit t75_10.1)) rfl rfl sz39 rfl ⟨Nat.le_of_ble_eq_true rfl, rfl⟩ rfl) (drawE_other _ _ _ _ rfl) rfl, trivial⟩) _ (by exact ⟨.ptr rfl, .ptr rfl, .ptr rfl, .ptr rfl, .ptr rfl, .free rfl rfl, .free rfl rfl, .free rfl rfl, trivial⟩) (by rfl)
              refine .inBlock <| .reg0 rfl (.op 0 rfl (addI rfl rfl) <| .op 0 rfl (mvV rfl) <| .nil0) <| .keepL [0, 1, 2, 3, 4] [(3, .ptr 0 1 6 0 0), (6, .ptr 1 1 2 0 0), (7, .ptr 2 1 6 0 0), (11, .ptr 3 1 6 0 0), (13, .ptr 4 1 2 0 0), (39, .rows (a2.map (cInt .i64))), (40, i6 (a2.length : Int)), (41, i6 (IntKind.i64.wrap (x11 + 1)))] [⟨6, [(TPds.lit a0)], 0, none⟩, ⟨2, [[i6 0, nul]], 0, none⟩, ⟨6, [GF_c0], 0, none⟩, ⟨6, [(TWeight.lit t75_10.1)], 0, none⟩, ⟨2, [(TConf.lit t70_6.1)], 0, none⟩] (by decide) (by decide) ⟨.ptr rfl, .ptr rfl, .ptr rfl, .ptr rfl, .ptr rfl, .free rfl rfl, .free rfl rfl, .free rfl rfl, trivial⟩ ⟨⟨_, rfl, bcBox (all2_free rfl)⟩, ⟨_, rfl, bcBox (all2_free rfl)⟩, ⟨_, rfl, bcBox (all2_free rfl)⟩, ⟨_, rfl, bcBox (all2_free rfl)⟩, ⟨_, rfl, bcBox (all2_free rfl)⟩, trivial⟩ ?_
              exact hn1 _ h
            · rw [if_neg c33] at h
              refine .condT rfl (nt c33) <| .seq <| .reg0 rfl (.op 0 rfl (bldS (cs := [i6 0, nul]) ze31 pl31 rfl rfl) <| .op 0 rfl (bldS (cs := GF_c0) ze39 pl39 rfl rfl) <| .op 0 rfl (mvV rfl) <| .op 0 rfl (mvV rfl) <| .op 0 rfl (stB (cs0 := [i6 0, nul]) (cs := [i6 0, nul]) (cs1 := [i6 0, nul]) rfl rfl sz31 rfl ⟨Nat.le_of_ble_eq_true rfl, rfl⟩ rfl) <| .op 0 rfl (stB (cs0 := GF_c0) (cs := GF_c0) (cs1 := GF_c0) rfl rfl sz39 rfl ⟨Nat.le_of_ble_eq_true rfl, rfl⟩ rfl) <| .op 0 rfl (asV rfl) <| .op 0 rfl (asV rfl) <| .nil0) ?_
              have q12 := hr1 _ h
              replace q12 := q12.symm
              subst q12
              refine .k [(6, .cptr GF_c2 0), (7, .cptr GF_c1 0), (8, i6 x11), (9, i6 x23)] ⟨cFixP rfl rfl (.cons (.free rfl rfl) <| .cons (.nil) <| .nil), cFixP rfl rfl (.cons (.free rfl rfl) <| .cons (.free rfl rfl) <| .cons (.free rfl rfl) <| .cons (.nil) <| .cons (.nil) <| .cons (.nil) <| .nil), .free rfl rfl, .free rfl rfl, trivial⟩ ?_
              exact .ret rfl
          · by_cases c34 : t70_6.2.1 = true
            · rw [if_pos c34] at h
              refine .condF rfl (bnotF c34) <| .skip <| .keepL [0, 1, 2, 3, 4, 5] [(3, .ptr 0 1 6 0 0), (6, .ptr 1 1 2 0 0), (7, .ptr 2 1 6 0 0), (11, .ptr 3 1 6 0 0), (13, .ptr 4 1 2 0 0), (14, i6 x11), (15, i6 (rdl a2 x11)), (16, .ptr 5 1 2 0 0), (18, i6 t70_6.2.2), (39, .rows (a2.map (cInt .i64))), (40, i6 (a2.length : Int)), (41, i6 x11)] [⟨6, [(TPds.lit a0)], 0, none⟩, ⟨2, [[i6 0, nul]], 0, none⟩, ⟨6, [GF_c0], 0, none⟩, ⟨6, [[bo x3, i6 x4, u6 x5, .rows (x6.map (cInt .u64)), .rows (x7.map TCell.cells), .rows (x8.map TWeight.cells)]], 0, none⟩, ⟨2, [[i6 x9, .rows (x10.map (cInt .i64))]], 0, none⟩, ⟨2, [(TConf.lit t70_6.1)], 0, none⟩] (by decide) (by decide) ⟨.ptr rfl, .ptr rfl, .ptr rfl, .ptr rfl, .ptr rfl, .free rfl rfl, .free rfl rfl, .ptr rfl, .free rfl rfl, .free rfl rfl, .free rfl rfl, .free rfl rfl, trivial⟩ ⟨⟨_, rfl, bcBox (all2_free rfl)⟩, ⟨_, rfl, bcBox (all2_free rfl)⟩, ⟨_, rfl, bcBox (all2_free rfl)⟩, ⟨_, rfl, bcBox (all2_free rfl)⟩, ⟨_, rfl, bcBox (all2_free rfl)⟩, ⟨_, rfl, bcBox (all2_free rfl)⟩, trivial⟩ ?_
              exact hJ1 _ h
            · rw [if_neg c34] at h
              refine .condT rfl (bnotT (nb c34)) <| .reg0 rfl (.a rfl <| .nil0) <| .keepL [0, 1, 2, 3, 4, 5] [(3, .ptr 0 1 6 0 0), (6, .ptr 1 1 2 0 0), (7, .ptr 2 1 6 0 0), (11, .ptr 3 1 6 0 0), (13, .ptr 4 1 2 0 0), (14, i6 x11), (15, i6 (rdl a2 x11)), (16, .ptr 5 1 2 0 0), (18, i6 121), (39, .rows (a2.map (cInt .i64))), (40, i6 (a2.length : Int)), (41, i6 x11)] [⟨6, [(TPds.lit a0)], 0, none⟩, ⟨2, [[i6 0, nul]], 0, none⟩, ⟨6, [GF_c0], 0, none⟩, ⟨6, [[bo x3, i6 x4, u6 x5, .rows (x6.map (cInt .u64)), .rows (x7.map TCell.cells), .rows (x8.map TWeight.cells)]], 0, none⟩, ⟨2, [[i6 x9, .rows (x10.map (cInt .i64))]], 0, none⟩, ⟨2, [(TConf.lit t70_6.1)], 0, none⟩] (by decide) (by decide) ⟨.ptr rfl, .ptr rfl, .ptr rfl, .ptr rfl, .ptr rfl, .free rfl rfl, .free rfl rfl, .ptr rfl, .free rfl rfl, .free rfl rfl, .free rfl rfl, .free rfl rfl, trivial⟩ ⟨⟨_, rfl, bcBox (all2_free rfl)⟩, ⟨_, rfl, bcBox (all2_free rfl)⟩, ⟨_, rfl, bcBox (all2_free rfl)⟩, ⟨_, rfl, bcBox (all2_free rfl)⟩, ⟨_, rfl, bcBox (all2_free rfl)⟩, ⟨_, rfl, bcBox (all2_free rfl)⟩, trivial⟩ ?_
              exact hJ1 _ h
      · rw [if_neg c24] at h
        refine .condF rfl (df c24) <| .exit rfl <| .keepL [1, 2, 3, 4] [(6, .ptr 0 1 2 0 0), (7, .ptr 1 1 6 0 0), (11, .ptr 2 1 6 0 0), (13, .ptr 3 1 2 0 0)] [⟨2, [[i6 0, nul]], 0, none⟩, ⟨6, [GF_c0], 0, none⟩, ⟨6, [[bo x3, i6 x4, u6 x5, .rows (x6.map (cInt .u64)), .rows (x7.map TCell.cells), .rows (x8.map TWeight.cells)]], 0, none⟩, ⟨2, [[i6 x9, .rows (x10.map (cInt .i64))]], 0, none⟩] (by decide) (by decide) ⟨.ptr rfl, .ptr rfl, .ptr rfl, .ptr rfl, trivial⟩ ⟨⟨_, rfl, bcBox (all2_free rfl)⟩, ⟨_, rfl, bcBox (all2_free rfl)⟩, ⟨_, rfl, bcBox (all2_free rfl)⟩, ⟨_, rfl, bcBox (all2_free rfl)⟩, trivial⟩ ?_
        exact hx1 _ h
  · rw [if_neg c1] at h
    refine .condT rfl (nt c1) <| .seq <| .reg0 rfl (.op 0 rfl (bldS (cs := [i6 0, nul]) ze31 pl31 rfl rfl) <| .op 0 rfl (bldS (cs := GF_c0) ze39 pl39 rfl rfl) <| .op 0 rfl (mvV rfl) <| .op 0 rfl (stB (cs0 := [i6 0, nul]) (cs := [i6 0, nul]) (cs1 := [i6 0, nul]) rfl rfl sz31 rfl ⟨Nat.le_of_ble_eq_true rfl, rfl⟩ rfl) <| .op 0 rfl (stB (cs0 := GF_c0) (cs := GF_c0) (cs1 := GF_c0) rfl rfl sz39 rfl ⟨Nat.le_of_ble_eq_true rfl, rfl⟩ rfl) <| .op 0 rfl (asV rfl) <| .op 0 rfl (asV rfl) <| .nil0) ?_
    replace h := h.symm
    subst h
    refine .k [(6, .cptr GF_c2 0), (7, .cptr GF_c1 0), (8, i6 0), (9, i6 t2_2)] ⟨cFixP rfl rfl (.cons (.free rfl rfl) <| .cons (.nil) <| .nil), cFixP rfl rfl (.cons (.free rfl rfl) <| .cons (.free rfl rfl) <| .cons (.free rfl rfl) <| .cons (.nil) <| .cons (.nil) <| .cons (.nil) <| .nil), .free rfl rfl, .free rfl rfl, trivial⟩ ?_
    exact .ret rfl
def steps_Text.f (a0 : TConf) (r : ByteArray) : Prop := TextOk a0.P a0.W ∧ r = confText a0.P a0.W
theorem steps_Text.D {a0 r} (h : steps_Text.f a0 r) : D Tryz.prog X (.callH 38 [.agg (TConf.lit a0)] [] (.val (.string r)) []) := .ext (x_text h)
def l12_awake.f (r : Bool) : Prop :=
  ∃ t2_0 : TPds, (l12_Example.f t2_0) ∧ ∃ t2_4 : TConf × TWeight × Int × Int, (steps_Run.f t2_0 (TConf.mk 0 [1]) [0, 1] t2_4) ∧ ∃ t3_4 : ByteArray, ((t2_4.2.2.2 = 0) → steps_Text.f t2_4.1 t3_4) ∧ r = ((t2_4.2.2.2 == 0) && ((decide (t3_4 = (⟨#[49, 32, 49]⟩ : ByteArray))) && (t2_4.2.1.Cost == 2)))
theorem l12_awake.D {r} (h : l12_awake.f r) : D Tryz.prog X (.callH 12 [] [] (.val (.bool r)) []) := by
  unfold l12_awake.f at h
  refine .enter 27 0 fn12 rfl rfl rfl <| .seq <| .reg0 rfl (.op 0 rfl (asV rfl) <| .nil0) <| .seq ?_
  obtain ⟨t2_0, g2_0, h⟩ := h
  obtain ⟨t2_4, g2_4, h⟩ := h
  refine .room 0 <| .room 0 <| .room 0 <| .room 0 <| .reg0 rfl (.callI rfl (callee_of rfl go37 rfl) (.pure rfl rfl (l12_Example.D g2_0)) <| .op 0 rfl (bldL (s := 1) (cs := [i6 1]) un29 sz3 ze3 ⟨by decide, rfl, by decide⟩ rfl rfl rfl rfl) <| .op 0 rfl (bldS (cs := [i6 0, .own 0 ([1].length)]) ze31 pl31 rfl rfl) <| .op 1 rfl (bldL (s := 1) (cs := [i6 0, i6 1]) un29 sz3 ze3 ⟨by decide, rfl, by decide⟩ rfl rfl rfl rfl) <| .callI rfl (callee_of rfl go8 rfl) (.lendC (args' := [.agg (TPds.lit t2_0), .agg [i6 0, .rows ([1].map (cInt .i64))], .rows ([0, 1].map (cInt .i64))])  [0, 1] true (.cons (.free rfl rfl) <| .cons (cAgg (.cons (.free rfl rfl) <| .cons (cFixO (l := [1]) sl29 rfl rfl rfl rfl) <| .nil)) <| .cons (cFixO (l := [0, 1]) sl29 rfl rfl rfl rfl) <| .nil) (by decide) rfl rfl rfl rfl (steps_Run.D g2_4)) <| .op 0 rfl (mvT rfl) <| .op 0 rfl (exT rfl rfl) <| .op 0 rfl (exT rfl rfl) <| .op 0 rfl (exT rfl rfl) <| .op 0 rfl (exT rfl rfl) <| .op 2 rfl (alP (s := 2) ze31 ⟨rfl, by decide, rfl⟩ rfl) <| .op 3 rfl (alP (s := 6) ze39 ⟨rfl, by decide, rfl⟩ rfl) <| .op 0 rfl (stB (cs0 := [i6 0, nul]) (cs := (TConf.lit t2_4.1)) (cs1 := (TConf.lit t2_4.1)) rfl rfl sz31 rfl ⟨Nat.le_of_ble_eq_true rfl, rfl⟩ rfl) <| .op 0 rfl (stB (cs0 := GF_c0) (cs := (TWeight.lit t2_4.2.1)) (cs1 := (TWeight.lit t2_4.2.1)) rfl rfl sz39 rfl ⟨Nat.le_of_ble_eq_true rfl, rfl⟩ rfl) <| .op 0 rfl (asV rfl) <| .op 0 rfl (asV rfl) <| .nil0) ?_
  refine .seq ?_
  obtain ⟨t3_4, g3_4, h⟩ := h
  refine .reg0 (e1 := listEnv [(0, bo ((t2_4.2.2.2 == 0) && ((decide (t3_4 = (⟨#[49, 32, 49]⟩ : ByteArray))) && (t2_4.2.1.Cost == 2))))]) (H1 := [⟨1, [1].map (cInt .i64), (max 0 ([1].map (cInt .i64) : List (List PV)).length), none⟩, ⟨1, [0, 1].map (cInt .i64), (max 0 ([0, 1].map (cInt .i64) : List (List PV)).length), none⟩, ⟨2, [(TConf.lit t2_4.1)], 0, none⟩, ⟨6, [(TWeight.lit t2_4.2.1)], 0, none⟩]) rfl ?_ ?_
  · refine .m rfl <| .o (eqI rfl rfl) <| .m rfl <| ?_
    by_cases c1 : t2_4.2.2.2 = 0
    · refine .g rfl (bt c1) (ldG rfl sz31 ag31 rfl) <| .callI (gT rfl rfl rfl (bt c1)) (callee_of rfl go38 rfl) (.pure rfl rfl (steps_Text.D (g3_4 c1))) <| .g rfl (bt c1) (eqStr un9 rfl rfl) <| .o (pkTV rfl (bt c1) rfl) <| .m rfl <| ?_
      by_cases c2 : t3_4 = (⟨#[49, 32, 49]⟩ : ByteArray)
      · exact (.g rfl (dt c2) (faP fa39_1 rfl) <| .g rfl (dt c2) (ldP rfl sz3 ag3 rfl) <| .g rfl (dt c2) (eqI rfl rfl) <| .o (pkTV rfl (dt c2) rfl) <| .a rfl <| .nilL _ ⟨cB rfl (mAndT (bt c1) (mAndT (dt c2) rfl)), trivial⟩)
      · exact (.n rfl (df c2) <| .n rfl (df c2) <| .n rfl (df c2) <| .o (pkFV rfl (df c2) rfl) <| .a rfl <| .nilL _ ⟨cB rfl (mAndT (bt c1) (mAndF (df c2))), trivial⟩)
    · exact (.n rfl (bn c1) <| .n rfl (bn c1) <| .n rfl (bn c1) <| .o (pkFV rfl (bn c1) rfl) <| .m rfl <| .n rfl rfl <| .n rfl rfl <| .n rfl rfl <| .o (pkFV rfl rfl rfl) <| .a rfl <| .nilL _ ⟨cB rfl (mAndF (bn c1)), trivial⟩)
  replace h := h.symm
  subst h
  refine .kf [(0, bo ((t2_4.2.2.2 == 0) && ((decide (t3_4 = (⟨#[49, 32, 49]⟩ : ByteArray))) && (t2_4.2.1.Cost == 2))))] rfl rfl ?_
  exact .ret rfl
def steps_all.j1 (x8 : Int) : ((List Int) × (List TConf)) → (Rnd (((List Int) × (List TConf) × Int)) (((List Int) × (List TConf))) ((List Int) × (List TConf) × Int)) → Prop := fun (x17, x18) z1 => z1 = .next (x17, x18, (IntKind.i64.wrap (x8 + 1)))
def steps_all.b1 (a0 : TPds) (a1 : TConf) (a2 : TRule → TConf → (TConf × Bool × Int) → Prop) : ((List Int) × (List TConf) × Int) → Rnd (((List Int) × (List TConf) × Int)) (((List Int) × (List TConf))) ((List Int) × (List TConf) × Int) → Prop := fun (x6, x7, x8) z1 => if x8 < (a0.Rules.length : Int) then (((InR x8 a0.Rules.length)) ∧ ∃ t48_3 : TConf × Bool × Int, (a2 (rdl a0.Rules x8) a1 t48_3) ∧ if t48_3.2.2 = 0 then (if t48_3.2.1 = true then (((Fits (x6.length + 1) 8)) ∧ ((Fits (x7.length + 1) 32)) ∧ steps_all.j1 x8 ((x6 ++ [x8]), (x7 ++ [t48_3.1])) z1) else (steps_all.j1 x8 (x6, x7) z1)) else (z1 = .ret ([], [], t48_3.2.2))) else (z1 = .exit (x6, x7))
def steps_all.f (a0 : TPds) (a1 : TConf) (a2 : TRule → TConf → (TConf × Bool × Int) → Prop) (r : (List Int) × (List TConf) × Int) : Prop :=
  ∃ t2_2 : Int, (steps_Check.f a0 a1 t2_2) ∧ if t2_2 = 0 then (∃ o1 : Fin (((List Int) × (List TConf))) ((List Int) × (List TConf) × Int), Loop (steps_all.b1 a0 a1 a2) ([], [], 0) o1 ∧ o1.on (fun (x13, x14) => r = (x13, x14, 0)) (fun r_ => r = r_)) else (r = ([], [], t2_2))
theorem steps_all.D {a0 : TPds} {a1 : TConf} {a2 : TRule → TConf → (TConf × Bool × Int) → Prop} {r : (List Int) × (List TConf) × Int} {c2_ : FuncId} {k2_ : List PV} (hg2_ : isGo Tryz.prog c2_ = true) (hk2_ : PV.free deep (.clo c2_ k2_) = true) (hka2_ : k2_.all (PV.free deep) = true) (hq2_ : ∀ x0_ x1_ y_, a2 x0_ x1_ y_ → D Tryz.prog X (.callH c2_ ([.agg (TRule.lit x0_), .agg (TConf.lit x1_)] ++ k2_) [] (.tuple [.agg (TConf.lit y_.1), .val (.bool y_.2.1), .val (.int .i64 y_.2.2)]) [])) (h : steps_all.f a0 a1 a2 r) : D Tryz.prog X (.callH 41 [.agg (TPds.lit a0), .agg (TConf.lit a1), .clo c2_ k2_] [] (.tuple [.rows (r.1.map (cInt .i64)), .rows (r.2.1.map TConf.cells), .val (.int .i64 r.2.2)]) []) := by
  unfold steps_all.f at h
  refine .enter 54 0 fn41 rfl rfl rfl <| .seq <| .room 0 <| .room 0 <| .reg0 rfl (.op 0 rfl (bxP (s := 6) (cs := (TPds.lit a0)) rfl ⟨rfl, by decide, rfl⟩ rfl) <| .op 1 rfl (bxP (s := 2) (cs := (TConf.lit a1)) rfl ⟨rfl, by decide, rfl⟩ rfl) <| .op 0 rfl (asV rfl) <| .op 0 rfl (asV rfl) <| .op 0 rfl (asV rfl) <| .nil0) <| .seq <| .seq ?_
  obtain ⟨t2_2, g2_2, h⟩ := h
  refine .reg0 rfl (.o (ldG rfl sz28 ag28 rfl) <| .o (ldG rfl sz31 ag31 rfl) <| .c rfl go20 rfl rfl rfl (steps_Check.D g2_2) <| .a rfl <| .nil0) <| .seq <| .reg0 rfl (.op 0 rfl (mvV rfl) <| .op 0 rfl (neI rfl rfl) <| .nil0) ?_
  by_cases c1 : t2_2 = 0
  · rw [if_pos c1] at h
    refine .condF rfl (nf c1) <| .skip <| .seq <| .reg0 rfl (.op 0 rfl (asV rfl) <| .nil0) <| .seq <| .reg0 rfl (.op 0 rfl (asV rfl) <| .nil0) <| .seq <| .seq <| .reg0 rfl (.op 0 rfl (faP fa28_3 rfl) <| .op 0 rfl (ldP rfl sz26 ag26 rfl) <| .op 0 rfl (lnR (l := a0.Rules) sl26 rfl) <| .op 0 rfl (mvV rfl) <| .nil0) <| .block <| .room 1 <| .room 2 <| .keepL [1, 2, 3] [(2, .clo c2_ k2_), (4, .ptr 0 1 2 0 0), (10, .own 1 0), (11, .own 2 0), (24, .rows (a0.Rules.map TRule.cells)), (25, i6 (a0.Rules.length : Int)), (26, i6 0)] [⟨2, [(TConf.lit a1)], 0, none⟩, ⟨1, [].map (cInt .i64), 0, none⟩, ⟨2, [].map TConf.cells, 0, none⟩] (by decide) (by decide) ⟨.free rfl hk2_, .ptr rfl, .nilOwn, .nilOwn, .free rfl rfl, .free rfl rfl, .free rfl rfl, trivial⟩ ⟨⟨_, rfl, bcBox (all2_free rfl)⟩, ⟨_, rfl, (bcRow (l := []) sl29 (Nat.le_refl _) rfl)⟩, ⟨_, rfl, (bcRow (l := []) sl51 (Nat.le_refl _) rfl)⟩, trivial⟩ ?_
    obtain ⟨o1, hL1, h⟩ := h
    refine .loopB (steps_all.b1 a0 a1 a2) (fun (x6, x7, x8) => listEnv [(2, .clo c2_ k2_), (4, .ptr 0 1 2 0 0), (10, .own 1 x6.length), (11, .own 2 x7.length), (24, .rows (a0.Rules.map TRule.cells)), (25, i6 (a0.Rules.length : Int)), (26, i6 x8)]) (fun (x6, x7, x8) => [⟨2, [(TConf.lit a1)], 0, none⟩, ⟨1, x6.map (cInt .i64), 0, none⟩, ⟨2, x7.map TConf.cells, 0, none⟩]) (fun (x13, x14) => listEnv [(10, .own 0 x13.length), (11, .own 1 x14.length)]) (fun (x13, x14) => [⟨1, x13.map (cInt .i64), 0, none⟩, ⟨2, x14.map TConf.cells, 0, none⟩]) hL1 (fun r_ => r = r_) ?_ ?_ ?_
    · rintro ⟨x13, x14⟩ rfl
      try dsimp only [Fin.on] at h
      refine .seq <| .reg0 rfl (.op 0 rfl (mvO rfl) <| .op 0 rfl (mvO rfl) <| .op 0 rfl (asO rfl) <| .op 0 rfl (asO rfl) <| .op 0 rfl (asV rfl) <| .nil0) ?_
      replace h := h.symm
      subst h
      refine .k [(6, .rows (x13.map (cInt .i64))), (7, .rows (x14.map TConf.cells)), (8, i6 0)] ⟨cFixO (l := x13) sl29 rfl rfl rfl rfl, cFixO (l := x14) sl51 rfl rfl rfl rfl, .free rfl rfl, trivial⟩ ?_
      exact .ret rfl
    · rintro r_ rfl
      exact h
    · rintro ⟨x6, x7, x8⟩ z1 h hn1 hx1 hr1
      dsimp only [steps_all.b1] at h
      refine .seq <| .reg0 rfl (.op 0 rfl (ltI rfl rfl) <| .nil0) <| .seq ?_
      by_cases c16 : x8 < (a0.Rules.length : Int)
      · rw [if_pos c16] at h
        refine .condT rfl (dt c16) <| .skip <| .seq <| .block <| .seq ?_
        obtain ⟨g47_1, h⟩ := h
        refine .room 0 <| .reg0 rfl (.op 0 rfl (mvV rfl) <| .op 0 rfl (ixR (l := a0.Rules) (lit := TRule.lit) sl26 rfl rfl (fun _ => rfl) g47_1.1 g47_1.2) <| .op 0 rfl (ldCG rfl sz70 ag70 rfl) <| .op 3 rfl (alP (s := 10) ze70 ⟨rfl, by decide, rfl⟩ rfl) <| .op 0 rfl (asV rfl) <| .op 0 rfl (stB (cs0 := [i6 0, i6 0, i6 0, nul, bo false, i6 0, u6 0, nul, nul, nul]) (cs := (TRule.lit (rdl a0.Rules x8))) (cs1 := (TRule.lit (rdl a0.Rules x8))) rfl rfl sz70 rfl ⟨Nat.le_of_ble_eq_true rfl, rfl⟩ rfl) <| .nil0) ?_
        refine .seq ?_
        obtain ⟨t48_3, g48_3, h⟩ := h
        refine .room 0 <| .reg0 rfl (.op 0 rfl (mvF rfl) <| .op 0 rfl (ldG rfl sz70 ag70 rfl) <| .op 0 rfl (ldG rfl sz31 ag31 rfl) <| .callI rfl (callee_of rfl hg2_ rfl) (.pure (allCons rfl (allCons rfl hka2_)) rfl (hq2_ _ _ _ g48_3)) <| .op 0 rfl (mvT rfl) <| .op 0 rfl (exT rfl rfl) <| .op 0 rfl (exT rfl rfl) <| .op 0 rfl (exT rfl rfl) <| .op 4 rfl (alP (s := 2) ze31 ⟨rfl, by decide, rfl⟩ rfl) <| .op 0 rfl (stB (cs0 := [i6 0, nul]) (cs := (TConf.lit t48_3.1)) (cs1 := (TConf.lit t48_3.1)) rfl rfl sz31 rfl ⟨Nat.le_of_ble_eq_true rfl, rfl⟩ rfl) <| .op 0 rfl (asV rfl) <| .op 0 rfl (asV rfl) <| .nil0) ?_
        refine .seq <| .seq <| .reg0 rfl (.op 0 rfl (mvV rfl) <| .op 0 rfl (neI rfl rfl) <| .nil0) ?_
        by_cases c20 : t48_3.2.2 = 0
        · rw [if_pos c20] at h
          refine .condF rfl (nf c20) <| .skip <| .seq <| .reg0 rfl (.op 0 rfl (mvV rfl) <| .nil0) ?_
          refine .consJ (fun s_ => steps_all.j1 x8 s_ z1) (fun (x17, x18) => listEnv [(2, .clo c2_ k2_), (4, .ptr 0 1 2 0 0), (10, .own 1 x17.length), (11, .own 2 x18.length), (24, .rows (a0.Rules.map TRule.cells)), (25, i6 (a0.Rules.length : Int)), (26, i6 x8)]) (fun (x17, x18) => [⟨2, [(TConf.lit a1)], 0, none⟩, ⟨1, x17.map (cInt .i64), 0, none⟩, ⟨2, x18.map TConf.cells, 0, none⟩]) ?_ fun hJ1 => ?_
          · rintro ⟨x17, x18⟩ h
            unfold steps_all.j1 at h
            try dsimp only at h
            refine .inBlock <| .reg0 rfl (.op 0 rfl (addI rfl rfl) <| .op 0 rfl (mvV rfl) <| .nil0) <| .keepL [0, 1, 2] [(2, .clo c2_ k2_), (4, .ptr 0 1 2 0 0), (10, .own 1 x17.length), (11, .own 2 x18.length), (24, .rows (a0.Rules.map TRule.cells)), (25, i6 (a0.Rules.length : Int)), (26, i6 (IntKind.i64.wrap (x8 + 1)))] [⟨2, [(TConf.lit a1)], 0, none⟩, ⟨1, x17.map (cInt .i64), 0, none⟩, ⟨2, x18.map TConf.cells, 0, none⟩] (by decide) (by decide) ⟨.free rfl hk2_, .ptr rfl, .own rfl, .own rfl, .free rfl rfl, .free rfl rfl, .free rfl rfl, trivial⟩ ⟨⟨_, rfl, bcBox (all2_free rfl)⟩, ⟨_, rfl, bcRow (l := x17) sl29 (Nat.le_refl _) rfl⟩, ⟨_, rfl, bcRow (l := x18) sl51 (Nat.le_refl _) rfl⟩, trivial⟩ ?_
            exact hn1 _ h
          · by_cases c22 : t48_3.2.1 = true
            · rw [if_pos c22] at h
              refine .condT rfl c22 ?_
              obtain ⟨g53_3, h⟩ := h
              obtain ⟨g53_7, h⟩ := h
              refine .room 0 <| .room 0 <| .room 0 <| .room 0 ?_
              refine .reg1 (e1 := listEnv [(2, .clo c2_ k2_), (4, .ptr 0 1 2 0 0), (10, .own 1 ((x6 ++ [x8]).length)), (11, .own 2 ((x7 ++ [t48_3.1]).length)), (24, .rows (a0.Rules.map TRule.cells)), (25, i6 (a0.Rules.length : Int)), (26, i6 x8)]) (H1 := [⟨2, [(TConf.lit a1)], 0, none⟩, ⟨1, (x6 ++ [x8]).map (cInt .i64), 0, none⟩, ⟨2, (x7 ++ [t48_3.1]).map TConf.cells, 0, none⟩, ⟨10, [(TRule.lit (rdl a0.Rules x8))], 0, none⟩, ⟨2, [(TConf.lit t48_3.1)], 0, none⟩, ⟨1, [x8].map (cInt .i64), 0, none⟩, Blk.hole, ⟨2, [t48_3.1].map TConf.cells, 0, none⟩, Blk.hole]) rfl ?_ ?_
              · exact .drawM [(9, 11, .own 2 ((x7 ++ [t48_3.1]).length)), (8, 10, .own 1 ((x6 ++ [x8]).length)), (7, 50, .own 2 ((x7 ++ [t48_3.1]).length)), (6, 49, .own 7 ([t48_3.1].length)), (5, 48, .agg (TConf.lit t48_3.1)), (4, 47, .own 2 x7.length), (3, 46, .own 1 ((x6 ++ [x8]).length)), (2, 45, .own 5 ([x8].length)), (1, 44, i6 x8), (0, 43, .own 1 x6.length)] [(7, 2, ⟨2, (x7 ++ [t48_3.1]).map TConf.cells, 0, none⟩), (6, 7, ⟨2, [t48_3.1].map TConf.cells, 0, none⟩), (3, 1, ⟨1, (x6 ++ [x8]).map (cInt .i64), 0, none⟩), (2, 5, ⟨1, [x8].map (cInt .i64), 0, none⟩)] [[], [], [1], [0, 2, 1], [], [], [5], [4, 6, 5, 3, 0, 2, 1], [3, 0, 2, 1, 7, 4, 6, 5], [7, 4, 6, 5, 3, 0, 2, 1, 8]] (by rfl) (by rfl) (by rfl) (by exact ⟨oP (fun _ => mvO rfl) rfl, oP (fun _ => mvV rfl) rfl, oW 5 (fun _ => bldL (s := 1) (cs := [i6 x8]) un29 sz3 ze3 ⟨by decide, rfl, by decide⟩ rfl rfl rfl rfl) rfl fun _ => rfl, oW 0 (fun _ => ap1 (l := x6) x8 sl29 rfl rfl rfl (Nat.zero_le _) (elems_own (l := [x8]) rfl rfl) g53_3) rfl fun _ => rfl, oP (fun _ => mvO rfl) rfl, oP (fun _ => ldG rfl sz31 ag31 rfl) rfl, oW 7 (fun _ => bldL (s := 2) (cs := [i6 t48_3.1.P, .rows (t48_3.1.W.map (cInt .i64))]) un51 sz31 ze31 ⟨by decide, rfl, by decide⟩ rfl rfl rfl rfl) rfl fun _ => rfl, oW 0 (fun _ => ap1 (l := x7) t48_3.1 sl51 rfl rfl rfl (Nat.zero_le _) (elems_own (l := [t48_3.1]) rfl rfl) g53_7) rfl fun _ => rfl, oP (fun _ => asO rfl) rfl, oP (fun _ => asO rfl) rfl, trivial⟩) _ (by exact ⟨.free rfl hk2_, .ptr rfl, .own rfl, .own rfl, .free rfl rfl, .free rfl rfl, .free rfl rfl, trivial⟩) (by rfl)
              refine .keepL [0, 1, 2] [(2, .clo c2_ k2_), (4, .ptr 0 1 2 0 0), (10, .own 1 ((x6 ++ [x8]).length)), (11, .own 2 ((x7 ++ [t48_3.1]).length)), (24, .rows (a0.Rules.map TRule.cells)), (25, i6 (a0.Rules.length : Int)), (26, i6 x8)] [⟨2, [(TConf.lit a1)], 0, none⟩, ⟨1, (x6 ++ [x8]).map (cInt .i64), 0, none⟩, ⟨2, (x7 ++ [t48_3.1]).map TConf.cells, 0, none⟩] (by decide) (by decide) ⟨.free rfl hk2_, .ptr rfl, .own rfl, .own rfl, .free rfl rfl, .free rfl rfl, .free rfl rfl, trivial⟩ ⟨⟨_, rfl, bcBox (all2_free rfl)⟩, ⟨_, rfl, bcRow (l := (x6 ++ [x8])) sl29 (Nat.le_refl _) rfl⟩, ⟨_, rfl, bcRow (l := (x7 ++ [t48_3.1])) sl51 (Nat.le_refl _) rfl⟩, trivial⟩ ?_
              exact hJ1 _ h
            · rw [if_neg c22] at h
              refine .condF rfl (nb c22) <| .skip <| .keepL [0, 1, 2] [(2, .clo c2_ k2_), (4, .ptr 0 1 2 0 0), (10, .own 1 x6.length), (11, .own 2 x7.length), (24, .rows (a0.Rules.map TRule.cells)), (25, i6 (a0.Rules.length : Int)), (26, i6 x8)] [⟨2, [(TConf.lit a1)], 0, none⟩, ⟨1, x6.map (cInt .i64), 0, none⟩, ⟨2, x7.map TConf.cells, 0, none⟩] (by decide) (by decide) ⟨.free rfl hk2_, .ptr rfl, .own rfl, .own rfl, .free rfl rfl, .free rfl rfl, .free rfl rfl, trivial⟩ ⟨⟨_, rfl, bcBox (all2_free rfl)⟩, ⟨_, rfl, bcRow (l := x6) sl29 (Nat.le_refl _) rfl⟩, ⟨_, rfl, bcRow (l := x7) sl51 (Nat.le_refl _) rfl⟩, trivial⟩ ?_
              exact hJ1 _ h
        · rw [if_neg c20] at h
          refine .condT rfl (nt c20) <| .seq <| .reg0 rfl (.op 0 rfl (mvV rfl) <| .op 0 rfl (asV rfl) <| .op 0 rfl (asV rfl) <| .op 0 rfl (asV rfl) <| .nil0) ?_
          have q6 := hr1 _ h
          replace q6 := q6.symm
          subst q6
          refine .k [(6, .rows (([] : List Int).map (cInt .i64))), (7, .rows (([] : List TConf).map TConf.cells)), (8, i6 t48_3.2.2)] ⟨.nil, .nil, .free rfl rfl, trivial⟩ ?_
          exact .ret rfl
      · rw [if_neg c16] at h
        refine .condF rfl (df c16) <| .exit rfl <| .keepL [1, 2] [(10, .own 0 x6.length), (11, .own 1 x7.length)] [⟨1, x6.map (cInt .i64), 0, none⟩, ⟨2, x7.map TConf.cells, 0, none⟩] (by decide) (by decide) ⟨.own rfl, .own rfl, trivial⟩ ⟨⟨_, rfl, bcRow (l := x6) sl29 (Nat.le_refl _) rfl⟩, ⟨_, rfl, bcRow (l := x7) sl51 (Nat.le_refl _) rfl⟩, trivial⟩ ?_
        exact hx1 _ h
  · rw [if_neg c1] at h
    refine .condT rfl (nt c1) <| .seq <| .reg0 rfl (.op 0 rfl (mvV rfl) <| .op 0 rfl (asV rfl) <| .op 0 rfl (asV rfl) <| .op 0 rfl (asV rfl) <| .nil0) ?_
    replace h := h.symm
    subst h
    refine .k [(6, .rows (([] : List Int).map (cInt .i64))), (7, .rows (([] : List TConf).map TConf.cells)), (8, i6 t2_2)] ⟨.nil, .nil, .free rfl rfl, trivial⟩ ?_
    exact .ret rfl
def steps_Next.f (a0 : TPds) (a1 : TConf) (r : (List Int) × (List TConf) × Int) : Prop :=
  ∃ t2_2 : (List Int) × (List TConf) × Int, (steps_all.f a0 a1 (fun x0_ x1_ y_ => steps_next.f x0_ x1_ y_) t2_2) ∧ r = (t2_2.1, t2_2.2.1, t2_2.2.2)
theorem steps_Next.D {a0 a1 r} (h : steps_Next.f a0 a1 r) : D Tryz.prog X (.callH 14 [.agg (TPds.lit a0), .agg (TConf.lit a1)] [] (.tuple [.rows (r.1.map (cInt .i64)), .rows (r.2.1.map TConf.cells), .val (.int .i64 r.2.2)]) []) := by
  unfold steps_Next.f at h
  refine .enter 13 0 fn14 rfl rfl rfl <| .seq <| .room 0 <| .room 0 <| .reg0 rfl (.op 0 rfl (bxP (s := 6) (cs := (TPds.lit a0)) rfl ⟨rfl, by decide, rfl⟩ rfl) <| .op 1 rfl (bxP (s := 2) (cs := (TConf.lit a1)) rfl ⟨rfl, by decide, rfl⟩ rfl) <| .op 0 rfl (asV rfl) <| .op 0 rfl (asV rfl) <| .op 0 rfl (asV rfl) <| .nil0) <| .seq ?_
  obtain ⟨t2_2, g2_2, h⟩ := h
  refine .reg0 rfl (.o (ldG rfl sz28 ag28 rfl) <| .o (ldG rfl sz31 ag31 rfl) <| .c rfl go41 rfl rfl rfl (steps_all.D (k2_ := []) go28 rfl rfl (fun x0_ x1_ y_ h_ => steps_next.D h_) g2_2) <| .o (exT rfl rfl) <| .o (exT rfl rfl) <| .o (exT rfl rfl) <| .o (asR rfl) <| .o (asR rfl) <| .a rfl <| .nil0) ?_
  replace h := h.symm
  subst h
  refine .kf [(4, .rows (t2_2.1.map (cInt .i64))), (5, .rows (t2_2.2.1.map TConf.cells)), (6, i6 t2_2.2.2)] rfl rfl ?_
  exact .ret rfl
def steps_Reach.j1 (x81 : Int) : ((List TConf) × (List (ByteArray × Bool))) → (Rnd (((List TConf) × (List (ByteArray × Bool)) × Int)) (((List TConf) × (List (ByteArray × Bool)))) ((List TConf) × Int)) → Prop := fun (x86, x87) z3 => z3 = .next (x86, x87, (IntKind.i64.wrap (x81 + 1)))
def steps_Reach.b3 (a3 : Int) (x25 : List TConf) (x26 : Nat) (t258_2 : (List Int) × (List TConf) × Int) : ((List TConf) × (List (ByteArray × Bool)) × Int) → Rnd (((List TConf) × (List (ByteArray × Bool)) × Int)) (((List TConf) × (List (ByteArray × Bool)))) ((List TConf) × Int) → Prop := fun (x79, x80, x81) z3 => if x81 < (t258_2.2.1.length : Int) then (((InR x81 t258_2.2.1.length)) ∧ ∃ t303_1 : ByteArray, (steps_Text.f (rdl t258_2.2.1 x81) t303_1) ∧ if ((mget x80 t303_1).getD false) = true then (steps_Reach.j1 x81 (x79, x80) z3) else (if (x79.length : Int) ≥ a3 then (z3 = .ret ([], 3)) else ((((max x26 (Int.toNat (x25.length : Int))) ≤ x79.length)) ∧ ((Fits (x79.length + 1) 32)) ∧ steps_Reach.j1 x81 ((x79 ++ [(rdl t258_2.2.1 x81)]), (mput x80 t303_1 true)) z3))) else (z3 = .exit (x79, x80))
def steps_Reach.b2 (a0 : TPds) (a3 : Int) (x25 : List TConf) (x26 : Nat) (x28 : Int) : ((List TConf) × (List (ByteArray × Bool)) × Int) → Rnd (((List TConf) × (List (ByteArray × Bool)) × Int)) (((List TConf) × (List (ByteArray × Bool)))) ((List TConf) × Int) → Prop := fun (x63, x64, x65) z2 => if x65 < ((cutl x25 x28 (x25.length : Int)).length : Int) then (((InR x65 (cutl x25 x28 (x25.length : Int)).length)) ∧ ∃ t258_2 : (List Int) × (List TConf) × Int, (steps_Next.f a0 (rdl (cutl x25 x28 (x25.length : Int)) x65) t258_2) ∧ if t258_2.2.2 = 0 then (∃ o3 : Fin (((List TConf) × (List (ByteArray × Bool)))) ((List TConf) × Int), Loop (steps_Reach.b3 a3 x25 x26 t258_2) (x63, x64, 0) o3 ∧ o3.on (fun (x84, x85) => z2 = .next (x84, x85, (IntKind.i64.wrap (x65 + 1)))) (fun r_ => z2 = .ret r_)) else (z2 = .ret ([], t258_2.2.2))) else (z2 = .exit (x63, x64))
def steps_Reach.b1 (a0 : TPds) (a3 : Int) : (Int × (List TConf) × Nat × (List (ByteArray × Bool)) × Int) → Rnd ((Int × (List TConf) × Nat × (List (ByteArray × Bool)) × Int)) (((List TConf) × Nat)) ((List TConf) × Int) → Prop := fun (x24, x25, x26, x27, x28) z1 => if ((decide (x24 > 0)) && (decide (x28 < (x25.length : Int)))) = true then (((Cut x28 (x25.length : Int) x25.length)) ∧ ∃ o2 : Fin (((List TConf) × (List (ByteArray × Bool)))) ((List TConf) × Int), Loop (steps_Reach.b2 a0 a3 x25 x26 x28) (x25, x27, 0) o2 ∧ o2.on (fun (x75, x76) => z1 = .next ((IntKind.i64.wrap (x24 - 1)), x75, (max x26 (Int.toNat (x25.length : Int))), x76, (x25.length : Int))) (fun r_ => z1 = .ret r_)) else (z1 = .exit (x25, x26))
def steps_Reach.f (a0 : TPds) (a1 : TConf) (a2 : Int) (a3 : Int) (r : (List TConf) × Int) : Prop :=
  ∃ t2_2 : Int, (steps_Check.f a0 a1 t2_2) ∧ if t2_2 = 0 then (if ((decide (a2 < 0)) || ((decide (a2 > 1000)) || ((decide (a3 < 1)) || (decide (a3 > 100000))))) = true then (r = ([], 1)) else (∃ t6_4 : (List Int), (slices_Clone_int.f a1.W t6_4) ∧ ∃ t7_2 : ByteArray, (steps_Text.f a1 t7_2) ∧ ∃ o1 : Fin (((List TConf) × Nat)) ((List TConf) × Int), Loop (steps_Reach.b1 a0 a3) (a2, [(TConf.mk a1.P t6_4)], 0, (mput ([] : List (ByteArray × Bool)) t7_2 true), 0) o1 ∧ o1.on (fun (x52, x53) => r = (x52, 0)) (fun r_ => r = r_))) else (r = ([], t2_2))
theorem steps_Reach.D {a0 a1 a2 a3 r} (h : steps_Reach.f a0 a1 a2 a3 r) : D Tryz.prog X (.callH 24 [.agg (TPds.lit a0), .agg (TConf.lit a1), .val (.int .i64 a2), .val (.int .i64 a3)] [] (.tuple [.rows (r.1.map TConf.cells), .val (.int .i64 r.2)]) []) := by
  unfold steps_Reach.f at h
  refine .enter 112 0 fn24 rfl rfl rfl <| .seq <| .room 0 <| .room 0 <| .reg0 rfl (.op 0 rfl (bxP (s := 6) (cs := (TPds.lit a0)) rfl ⟨rfl, by decide, rfl⟩ rfl) <| .op 1 rfl (bxP (s := 2) (cs := (TConf.lit a1)) rfl ⟨rfl, by decide, rfl⟩ rfl) <| .op 0 rfl (asV rfl) <| .op 0 rfl (asV rfl) <| .nil0) <| .seq <| .seq ?_
  obtain ⟨t2_2, g2_2, h⟩ := h
  refine .reg0 rfl (.o (ldG rfl sz28 ag28 rfl) <| .o (ldG rfl sz31 ag31 rfl) <| .c rfl go20 rfl rfl rfl (steps_Check.D g2_2) <| .a rfl <| .nil0) <| .seq <| .reg0 rfl (.op 0 rfl (mvV rfl) <| .op 0 rfl (neI rfl rfl) <| .nil0) ?_
  by_cases c1 : t2_2 = 0
  · rw [if_pos c1] at h
    refine .condF rfl (nf c1) <| .skip <| .seq <| .seq ?_
    refine .reg0 (e1 := listEnv [(2, i6 a2), (3, i6 a3), (4, .ptr 0 1 6 0 0), (5, .ptr 1 1 2 0 0), (42, bo ((decide (a2 < 0)) || ((decide (a2 > 1000)) || ((decide (a3 < 1)) || (decide (a3 > 100000))))))]) (H1 := [⟨6, [(TPds.lit a0)], 0, none⟩, ⟨2, [(TConf.lit a1)], 0, none⟩]) rfl ?_ ?_
    · refine .m rfl <| .o (ltI rfl rfl) <| .m rfl <| ?_
      by_cases c2 : a2 < 0
      · exact (.n rfl (dt c2) <| .n rfl (dt c2) <| .o (pkTV rfl (dt c2) rfl) <| .m rfl <| .n rfl rfl <| .n rfl rfl <| .o (pkTV rfl rfl rfl) <| .m rfl <| .n rfl rfl <| .n rfl rfl <| .o (pkTV rfl rfl rfl) <| .nilL _ ⟨.free rfl rfl, .free rfl rfl, .ptr rfl, .ptr rfl, cB rfl (mOrT (dt c2)), trivial⟩)
      · refine .g rfl (df c2) (mvV rfl) <| .g rfl (df c2) (gtI rfl rfl) <| .o (pkFV rfl (df c2) rfl) <| .m rfl <| ?_
        by_cases c3 : a2 > 1000
        · exact (.n rfl (dt c3) <| .n rfl (dt c3) <| .o (pkTV rfl (dt c3) rfl) <| .m rfl <| .n rfl rfl <| .n rfl rfl <| .o (pkTV rfl rfl rfl) <| .nilL _ ⟨.free rfl rfl, .free rfl rfl, .ptr rfl, .ptr rfl, cB rfl (mOrF (df c2) (mOrT (dt c3))), trivial⟩)
        · refine .g rfl (df c3) (mvV rfl) <| .g rfl (df c3) (ltI rfl rfl) <| .o (pkFV rfl (df c3) rfl) <| .m rfl <| ?_
          by_cases c4 : a3 < 1
          · exact (.n rfl (dt c4) <| .n rfl (dt c4) <| .o (pkTV rfl (dt c4) rfl) <| .nilL _ ⟨.free rfl rfl, .free rfl rfl, .ptr rfl, .ptr rfl, cB rfl (mOrF (df c2) (mOrF (df c3) (mOrT (dt c4)))), trivial⟩)
          · exact (.g rfl (df c4) (mvV rfl) <| .g rfl (df c4) (gtI rfl rfl) <| .o (pkFV rfl (df c4) rfl) <| .nilL _ ⟨.free rfl rfl, .free rfl rfl, .ptr rfl, .ptr rfl, cB rfl (mOrF (df c2) (mOrF (df c3) (mOrF (df c4) rfl))), trivial⟩)
    by_cases c5 : ((decide (a2 < 0)) || ((decide (a2 > 1000)) || ((decide (a3 < 1)) || (decide (a3 > 100000))))) = true
    · rw [if_pos c5] at h
      refine .condT rfl c5 <| .seq <| .reg0 rfl (.op 0 rfl (asV rfl) <| .op 0 rfl (asV rfl) <| .nil0) ?_
      replace h := h.symm
      subst h
      refine .k [(8, .rows (([] : List TConf).map TConf.cells)), (9, i6 1)] ⟨.nil, .free rfl rfl, trivial⟩ ?_
      exact .ret rfl
    · rw [if_neg c5] at h
      refine .condF rfl (nb c5) <| .skip <| .seq ?_
      obtain ⟨t6_4, g6_4, h⟩ := h
      refine .room 0 ?_
      refine .reg1 (e1 := listEnv [(2, i6 a2), (3, i6 a3), (4, .ptr 0 1 6 0 0), (5, .ptr 1 1 2 0 0), (11, .own 2 ([(TConf.mk a1.P t6_4)].length))]) (H1 := [⟨6, [(TPds.lit a0)], 0, none⟩, ⟨2, [(TConf.lit a1)], 0, none⟩, ⟨2, [(TConf.mk a1.P t6_4)].map TConf.cells, 0, none⟩]) rfl ?_ ?_
      · exact .drawM [(7, 11, .own 2 ([(TConf.mk a1.P t6_4)].length)), (6, 49, .own 2 ([(TConf.mk a1.P t6_4)].length)), (5, 48, .agg [i6 a1.P, .rows (t6_4.map (cInt .i64))]), (4, 47, .rows (t6_4.map (cInt .i64))), (3, 46, .rows (a1.W.map (cInt .i64))), (2, 45, .ptr 1 1 2 0 1), (1, 44, i6 a1.P), (0, 43, .ptr 1 1 2 0 0)] [(6, 2, ⟨2, [(TConf.mk a1.P t6_4)].map TConf.cells, 0, none⟩)] [[], [0], [], [2], [3, 2], [1, 0, 4, 3, 2], [5, 1, 0, 4, 3, 2], [6, 5, 1, 0, 4, 3, 2]] (by rfl) (by rfl) (by rfl) (by exact ⟨oP (fun _ => faP fa31_0 rfl) rfl, oP (fun _ => ldP rfl sz3 ag3 rfl) rfl, oP (fun _ => faP fa31_1 rfl) rfl, oP (fun _ => ldP rfl sz29 ag29 rfl) rfl, fun S hS hD hn => .oneI hS hD hn rfl rfl (callee_of rfl go27 rfl) (.pure rfl rfl (slices_Clone_int.D g6_4)) rfl rfl rfl, oP (fun _ => bldS (cs := [i6 a1.P, .rows (t6_4.map (cInt .i64))]) ze31 pl31 rfl rfl) rfl, oW 2 (fun _ => bldL (s := 2) (cs := [i6 a1.P, .rows (t6_4.map (cInt .i64))]) un51 sz31 ze31 ⟨by decide, rfl, by decide⟩ rfl rfl rfl rfl) rfl fun _ => rfl, oP (fun _ => asO rfl) rfl, trivial⟩) _ (by exact ⟨.free rfl rfl, .free rfl rfl, .ptr rfl, .ptr rfl, .own rfl, trivial⟩) (by rfl)
      refine .seq ?_
      obtain ⟨t7_2, g7_2, h⟩ := h
      refine .room 0 <| .reg0 rfl (.op 3 rfl (mkM (κ := ByteArray) (kf := kf92) (vf := (fun x => (bo x))) rfl) <| .op 0 rfl (ldG rfl sz31 ag31 rfl) <| .callI rfl (callee_of rfl go38 rfl) (.pure rfl rfl (steps_Text.D g7_2)) <| .op 0 rfl (bldS (cs := [.val (.string t7_2)]) ze92 pl92 rfl rfl) <| .op 0 rfl (inM (l := ([] : List (ByteArray × Bool))) (k := t7_2) (v := true) mp93 rfl rfl rfl rfl) <| .op 0 rfl (mvMp rfl) <| .op 0 rfl (asMp rfl) <| .nil0) ?_
      refine .seq <| .seq <| .reg0 rfl (.op 0 rfl (asV rfl) <| .nil0) <| .block <| .keepL [0, 2, 3] [(2, i6 a2), (3, i6 a3), (4, .ptr 0 1 6 0 0), (11, .own 1 ([(TConf.mk a1.P t6_4)].length)), (12, .mp 2), (13, i6 0)] [⟨6, [(TPds.lit a0)], 0, none⟩, ⟨2, [(TConf.mk a1.P t6_4)].map TConf.cells, 0, none⟩, (mpB kf92 (fun x => (bo x)) (mput ([] : List (ByteArray × Bool)) t7_2 true))] (by decide) (by decide) ⟨.free rfl rfl, .free rfl rfl, .ptr rfl, .own rfl, .mp rfl, .free rfl rfl, trivial⟩ ⟨⟨_, rfl, bcBox (all2_free rfl)⟩, ⟨_, rfl, bcRow (l := [(TConf.mk a1.P t6_4)]) sl51 (Nat.le_refl _) rfl⟩, ⟨_, rfl, bcMap (l := (mput ([] : List (ByteArray × Bool)) t7_2 true)) (fun _ => rfl) rfl⟩, trivial⟩ ?_
      obtain ⟨o1, hL1, h⟩ := h
      refine .loopB (steps_Reach.b1 a0 a3) (fun (x24, x25, x26, x27, x28) => listEnv [(2, i6 x24), (3, i6 a3), (4, .ptr 0 1 6 0 0), (11, .own 1 x25.length), (12, .mp 2), (13, i6 x28)]) (fun (x24, x25, x26, x27, x28) => [⟨6, [(TPds.lit a0)], 0, none⟩, ⟨2, x25.map TConf.cells, x26, none⟩, (mpB kf92 (fun x => (bo x)) x27)]) (fun (x52, x53) => listEnv [(11, .own 0 x52.length)]) (fun (x52, x53) => [⟨2, x52.map TConf.cells, x53, none⟩]) hL1 (fun r_ => r = r_) ?_ ?_ ?_
      · rintro ⟨x52, x53⟩ rfl
        try dsimp only [Fin.on] at h
        refine .seq <| .reg0 rfl (.op 0 rfl (mvO rfl) <| .op 0 rfl (asO rfl) <| .op 0 rfl (asV rfl) <| .nil0) ?_
        replace h := h.symm
        subst h
        refine .k [(8, .rows (x52.map TConf.cells)), (9, i6 0)] ⟨cFixO (l := x52) sl51 rfl rfl rfl rfl, .free rfl rfl, trivial⟩ ?_
        exact .ret rfl
      · rintro r_ rfl
        exact h
      · rintro ⟨x24, x25, x26, x27, x28⟩ z1 h hn1 hx1 hr1
        dsimp only [steps_Reach.b1] at h
        refine .seq <| .seq ?_
        refine .reg0 (e1 := listEnv [(2, i6 x24), (3, i6 a3), (4, .ptr 0 1 6 0 0), (11, .own 1 x25.length), (12, .mp 2), (13, i6 x28), (62, bo ((decide (x24 > 0)) && (decide (x28 < (x25.length : Int)))))]) (H1 := [⟨6, [(TPds.lit a0)], 0, none⟩, ⟨2, x25.map TConf.cells, x26, none⟩, (mpB kf92 (fun x => (bo x)) x27)]) rfl ?_ ?_
        · refine .m rfl <| .o (gtI rfl rfl) <| .m rfl <| ?_
          by_cases c58 : x24 > 0
          · exact (.g rfl (dt c58) (mvV rfl) <| .g rfl (dt c58) (mvO rfl) <| .g rfl (dt c58) (lnO (l := x25) sl51 rfl rfl rfl) <| .g rfl (dt c58) (ltI rfl rfl) <| .o (pkTV rfl (dt c58) rfl) <| .nilL _ ⟨.free rfl rfl, .free rfl rfl, .ptr rfl, .own rfl, .mp rfl, .free rfl rfl, cB rfl (mAndT (dt c58) rfl), trivial⟩)
          · exact (.n rfl (df c58) <| .n rfl (df c58) <| .n rfl (df c58) <| .n rfl (df c58) <| .o (pkFV rfl (df c58) rfl) <| .nilL _ ⟨.free rfl rfl, .free rfl rfl, .ptr rfl, .own rfl, .mp rfl, .free rfl rfl, cB rfl (mAndF (df c58)), trivial⟩)
        by_cases c59 : ((decide (x24 > 0)) && (decide (x28 < (x25.length : Int)))) = true
        · rw [if_pos c59] at h
          refine .condT rfl c59 <| .skip <| .seq <| .block <| .seq <| .reg0 rfl (.op 0 rfl (mvO rfl) <| .op 0 rfl (lnO (l := x25) sl51 rfl rfl rfl) <| .op 0 rfl (asV rfl) <| .nil0) <| .seq <| .seq ?_
          obtain ⟨g177_3, h⟩ := h
          refine .reg0 rfl (.o (mvO rfl) <| .m rfl <| .m rfl <| .o (slO (l := x25) (h := Int.toNat (x25.length : Int)) (v := Int.toNat x28) sl51 rfl rfl rfl (bound_some rfl g177_3.1) (bound_some rfl g177_3.j0) (cut_le g177_3) (cut_le2 g177_3)) <| .o (lnR (l := (cutl x25 x28 (x25.length : Int))) sl51 rfl) <| .m rfl <| .nil0) <| .block <| .keepL [0, 1, 2] [(2, i6 x24), (3, i6 a3), (4, .ptr 0 1 6 0 0), (11, .own 1 x25.length), (12, .mp 2), (14, i6 (x25.length : Int)), (70, .rows ((cutl x25 x28 (x25.length : Int)).map TConf.cells)), (71, i6 ((cutl x25 x28 (x25.length : Int)).length : Int)), (72, i6 0)] [⟨6, [(TPds.lit a0)], 0, none⟩, ⟨2, x25.map TConf.cells, (max x26 (Int.toNat (x25.length : Int))), none⟩, (mpB kf92 (fun x => (bo x)) x27)] (by decide) (by decide) ⟨.free rfl rfl, .free rfl rfl, .ptr rfl, .own rfl, .mp rfl, .free rfl rfl, .free rfl rfl, .free rfl rfl, .free rfl rfl, trivial⟩ ⟨⟨_, rfl, bcBox (all2_free rfl)⟩, ⟨_, rfl, bcRow (l := x25) sl51 (Nat.le_refl _) rfl⟩, ⟨_, rfl, bcMap (l := x27) (fun _ => rfl) rfl⟩, trivial⟩ ?_
          obtain ⟨o2, hL2, h⟩ := h
          refine .loopB (steps_Reach.b2 a0 a3 x25 x26 x28) (fun (x63, x64, x65) => listEnv [(2, i6 x24), (3, i6 a3), (4, .ptr 0 1 6 0 0), (11, .own 1 x63.length), (12, .mp 2), (14, i6 (x25.length : Int)), (70, .rows ((cutl x25 x28 (x25.length : Int)).map TConf.cells)), (71, i6 ((cutl x25 x28 (x25.length : Int)).length : Int)), (72, i6 x65)]) (fun (x63, x64, x65) => [⟨6, [(TPds.lit a0)], 0, none⟩, ⟨2, x63.map TConf.cells, (max x26 (Int.toNat (x25.length : Int))), none⟩, (mpB kf92 (fun x => (bo x)) x64)]) (fun (x75, x76) => listEnv [(2, i6 x24), (3, i6 a3), (4, .ptr 0 1 6 0 0), (11, .own 1 x75.length), (12, .mp 2), (14, i6 (x25.length : Int))]) (fun (x75, x76) => [⟨6, [(TPds.lit a0)], 0, none⟩, ⟨2, x75.map TConf.cells, (max x26 (Int.toNat (x25.length : Int))), none⟩, (mpB kf92 (fun x => (bo x)) x76)]) hL2 (fun r_ => z1 = .ret r_) ?_ ?_ ?_
          · rintro ⟨x75, x76⟩ rfl
            try dsimp only [Fin.on] at h
            refine .reg0 rfl (.m rfl <| .a rfl <| .nil0) <| .inBlock <| .reg0 rfl (.op 0 rfl (mvV rfl) <| .op 0 rfl (subI rfl rfl) <| .op 0 rfl (asV rfl) <| .nil0) <| .keepL [0, 1, 2] [(2, i6 (IntKind.i64.wrap (x24 - 1))), (3, i6 a3), (4, .ptr 0 1 6 0 0), (11, .own 1 x75.length), (12, .mp 2), (13, i6 (x25.length : Int))] [⟨6, [(TPds.lit a0)], 0, none⟩, ⟨2, x75.map TConf.cells, (max x26 (Int.toNat (x25.length : Int))), none⟩, (mpB kf92 (fun x => (bo x)) x76)] (by decide) (by decide) ⟨.free rfl rfl, .free rfl rfl, .ptr rfl, .own rfl, .mp rfl, .free rfl rfl, trivial⟩ ⟨⟨_, rfl, bcBox (all2_free rfl)⟩, ⟨_, rfl, bcRow (l := x75) sl51 (Nat.le_refl _) rfl⟩, ⟨_, rfl, bcMap (l := x76) (fun _ => rfl) rfl⟩, trivial⟩ ?_
            exact hn1 _ h
          · rintro r_ rfl
            exact h
          · rintro ⟨x63, x64, x65⟩ z2 h hn2 hx2 hr2
            dsimp only [steps_Reach.b2] at h
            refine .seq <| .reg0 rfl (.op 0 rfl (ltI rfl rfl) <| .nil0) <| .seq ?_
            by_cases c84 : x65 < ((cutl x25 x28 (x25.length : Int)).length : Int)
            · rw [if_pos c84] at h
              refine .condT rfl (dt c84) <| .skip <| .seq <| .block <| .seq ?_
              obtain ⟨g257_0, h⟩ := h
              refine .room 0 <| .reg0 rfl (.op 0 rfl (ixR (l := (cutl x25 x28 (x25.length : Int))) (lit := TConf.lit) sl51 rfl rfl (fun _ => rfl) g257_0.1 g257_0.2) <| .op 0 rfl (ldCG rfl sz31 ag31 rfl) <| .op 3 rfl (alP (s := 2) ze31 ⟨rfl, by decide, rfl⟩ rfl) <| .op 0 rfl (stB (cs0 := [i6 0, nul]) (cs := (TConf.lit (rdl (cutl x25 x28 (x25.length : Int)) x65))) (cs1 := (TConf.lit (rdl (cutl x25 x28 (x25.length : Int)) x65))) rfl rfl sz31 rfl ⟨Nat.le_of_ble_eq_true rfl, rfl⟩ rfl) <| .nil0) ?_
              refine .seq ?_
              obtain ⟨t258_2, g258_2, h⟩ := h
              refine .reg0 rfl (.o (ldG rfl sz28 ag28 rfl) <| .o (ldG rfl sz31 ag31 rfl) <| .c rfl go14 rfl rfl rfl (steps_Next.D g258_2) <| .o (mvT rfl) <| .o (exT rfl rfl) <| .o (exT rfl rfl) <| .o (exT rfl rfl) <| .o (asR rfl) <| .o (asR rfl) <| .a rfl <| .nil0) <| .seq <| .seq <| .reg0 rfl (.op 0 rfl (mvV rfl) <| .op 0 rfl (neI rfl rfl) <| .nil0) ?_
              by_cases c85 : t258_2.2.2 = 0
              · rw [if_pos c85] at h
                refine .condF rfl (nf c85) <| .skip <| .seq <| .reg0 rfl (.op 0 rfl (mvR rfl) <| .op 0 rfl (lnR (l := t258_2.2.1) sl51 rfl) <| .op 0 rfl (mvV rfl) <| .nil0) <| .block <| .keepL [0, 1, 2] [(2, i6 x24), (3, i6 a3), (4, .ptr 0 1 6 0 0), (11, .own 1 x63.length), (12, .mp 2), (14, i6 (x25.length : Int)), (70, .rows ((cutl x25 x28 (x25.length : Int)).map TConf.cells)), (71, i6 ((cutl x25 x28 (x25.length : Int)).length : Int)), (72, i6 x65), (86, .rows (t258_2.2.1.map TConf.cells)), (87, i6 (t258_2.2.1.length : Int)), (88, i6 0)] [⟨6, [(TPds.lit a0)], 0, none⟩, ⟨2, x63.map TConf.cells, (max x26 (Int.toNat (x25.length : Int))), none⟩, (mpB kf92 (fun x => (bo x)) x64)] (by decide) (by decide) ⟨.free rfl rfl, .free rfl rfl, .ptr rfl, .own rfl, .mp rfl, .free rfl rfl, .free rfl rfl, .free rfl rfl, .free rfl rfl, .free rfl rfl, .free rfl rfl, .free rfl rfl, trivial⟩ ⟨⟨_, rfl, bcBox (all2_free rfl)⟩, ⟨_, rfl, bcRow (l := x63) sl51 (Nat.le_refl _) rfl⟩, ⟨_, rfl, bcMap (l := x64) (fun _ => rfl) rfl⟩, trivial⟩ ?_
                obtain ⟨o3, hL3, h⟩ := h
                refine .loopB (steps_Reach.b3 a3 x25 x26 t258_2) (fun (x79, x80, x81) => listEnv [(2, i6 x24), (3, i6 a3), (4, .ptr 0 1 6 0 0), (11, .own 1 x79.length), (12, .mp 2), (14, i6 (x25.length : Int)), (70, .rows ((cutl x25 x28 (x25.length : Int)).map TConf.cells)), (71, i6 ((cutl x25 x28 (x25.length : Int)).length : Int)), (72, i6 x65), (86, .rows (t258_2.2.1.map TConf.cells)), (87, i6 (t258_2.2.1.length : Int)), (88, i6 x81)]) (fun (x79, x80, x81) => [⟨6, [(TPds.lit a0)], 0, none⟩, ⟨2, x79.map TConf.cells, (max x26 (Int.toNat (x25.length : Int))), none⟩, (mpB kf92 (fun x => (bo x)) x80)]) (fun (x84, x85) => listEnv [(2, i6 x24), (3, i6 a3), (4, .ptr 0 1 6 0 0), (11, .own 1 x84.length), (12, .mp 2), (14, i6 (x25.length : Int)), (70, .rows ((cutl x25 x28 (x25.length : Int)).map TConf.cells)), (71, i6 ((cutl x25 x28 (x25.length : Int)).length : Int)), (72, i6 x65)]) (fun (x84, x85) => [⟨6, [(TPds.lit a0)], 0, none⟩, ⟨2, x84.map TConf.cells, (max x26 (Int.toNat (x25.length : Int))), none⟩, (mpB kf92 (fun x => (bo x)) x85)]) hL3 (fun r_ => z2 = .ret r_) ?_ ?_ ?_
                · rintro ⟨x84, x85⟩ rfl
                  try dsimp only [Fin.on] at h
                  refine .inBlock <| .reg0 rfl (.op 0 rfl (addI rfl rfl) <| .op 0 rfl (mvV rfl) <| .nil0) <| .keepL [0, 1, 2] [(2, i6 x24), (3, i6 a3), (4, .ptr 0 1 6 0 0), (11, .own 1 x84.length), (12, .mp 2), (14, i6 (x25.length : Int)), (70, .rows ((cutl x25 x28 (x25.length : Int)).map TConf.cells)), (71, i6 ((cutl x25 x28 (x25.length : Int)).length : Int)), (72, i6 (IntKind.i64.wrap (x65 + 1)))] [⟨6, [(TPds.lit a0)], 0, none⟩, ⟨2, x84.map TConf.cells, (max x26 (Int.toNat (x25.length : Int))), none⟩, (mpB kf92 (fun x => (bo x)) x85)] (by decide) (by decide) ⟨.free rfl rfl, .free rfl rfl, .ptr rfl, .own rfl, .mp rfl, .free rfl rfl, .free rfl rfl, .free rfl rfl, .free rfl rfl, trivial⟩ ⟨⟨_, rfl, bcBox (all2_free rfl)⟩, ⟨_, rfl, bcRow (l := x84) sl51 (Nat.le_refl _) rfl⟩, ⟨_, rfl, bcMap (l := x85) (fun _ => rfl) rfl⟩, trivial⟩ ?_
                  exact hn2 _ h
                · rintro r_ rfl
                  exact h
                · rintro ⟨x79, x80, x81⟩ z3 h hn3 hx3 hr3
                  dsimp only [steps_Reach.b3] at h
                  refine .seq <| .reg0 rfl (.op 0 rfl (ltI rfl rfl) <| .nil0) <| .seq ?_
                  by_cases c96 : x81 < (t258_2.2.1.length : Int)
                  · rw [if_pos c96] at h
                    refine .condT rfl (dt c96) <| .skip <| .seq ?_
                    refine .consJ (fun s_ => steps_Reach.j1 x81 s_ z3) (fun (x86, x87) => listEnv [(2, i6 x24), (3, i6 a3), (4, .ptr 0 1 6 0 0), (11, .own 1 x86.length), (12, .mp 2), (14, i6 (x25.length : Int)), (70, .rows ((cutl x25 x28 (x25.length : Int)).map TConf.cells)), (71, i6 ((cutl x25 x28 (x25.length : Int)).length : Int)), (72, i6 x65), (86, .rows (t258_2.2.1.map TConf.cells)), (87, i6 (t258_2.2.1.length : Int)), (88, i6 x81)]) (fun (x86, x87) => [⟨6, [(TPds.lit a0)], 0, none⟩, ⟨2, x86.map TConf.cells, (max x26 (Int.toNat (x25.length : Int))), none⟩, (mpB kf92 (fun x => (bo x)) x87)]) ?_ fun hJ1 => ?_
                    · rintro ⟨x86, x87⟩ h
                      unfold steps_Reach.j1 at h
                      try dsimp only at h
                      refine .reg0 rfl (.o (addI rfl rfl) <| .m rfl <| .nil0) <| .keepL [0, 1, 2] [(2, i6 x24), (3, i6 a3), (4, .ptr 0 1 6 0 0), (11, .own 1 x86.length), (12, .mp 2), (14, i6 (x25.length : Int)), (70, .rows ((cutl x25 x28 (x25.length : Int)).map TConf.cells)), (71, i6 ((cutl x25 x28 (x25.length : Int)).length : Int)), (72, i6 x65), (86, .rows (t258_2.2.1.map TConf.cells)), (87, i6 (t258_2.2.1.length : Int)), (88, i6 (IntKind.i64.wrap (x81 + 1)))] [⟨6, [(TPds.lit a0)], 0, none⟩, ⟨2, x86.map TConf.cells, (max x26 (Int.toNat (x25.length : Int))), none⟩, (mpB kf92 (fun x => (bo x)) x87)] (by decide) (by decide) ⟨.free rfl rfl, .free rfl rfl, .ptr rfl, .own rfl, .mp rfl, .free rfl rfl, .free rfl rfl, .free rfl rfl, .free rfl rfl, .free rfl rfl, .free rfl rfl, .free rfl rfl, trivial⟩ ⟨⟨_, rfl, bcBox (all2_free rfl)⟩, ⟨_, rfl, bcRow (l := x86) sl51 (Nat.le_refl _) rfl⟩, ⟨_, rfl, bcMap (l := x87) (fun _ => rfl) rfl⟩, trivial⟩ ?_
                      exact hn3 _ h
                    · refine .block <| .seq ?_
                      obtain ⟨g302_0, h⟩ := h
                      refine .room 0 <| .reg0 rfl (.op 0 rfl (ixR (l := t258_2.2.1) (lit := TConf.lit) sl51 rfl rfl (fun _ => rfl) g302_0.1 g302_0.2) <| .op 0 rfl (ldCG rfl sz31 ag31 rfl) <| .op 3 rfl (alP (s := 2) ze31 ⟨rfl, by decide, rfl⟩ rfl) <| .op 0 rfl (stB (cs0 := [i6 0, nul]) (cs := (TConf.lit (rdl t258_2.2.1 x81))) (cs1 := (TConf.lit (rdl t258_2.2.1 x81))) rfl rfl sz31 rfl ⟨Nat.le_of_ble_eq_true rfl, rfl⟩ rfl) <| .nil0) ?_
                      refine .seq ?_
                      obtain ⟨t303_1, g303_1, h⟩ := h
                      refine .room 0 <| .reg0 rfl (.op 0 rfl (ldG rfl sz31 ag31 rfl) <| .callI rfl (callee_of rfl go38 rfl) (.pure rfl rfl (steps_Text.D g303_1)) <| .op 0 rfl (bldS (cs := [.val (.string t303_1)]) ze92 pl92 rfl rfl) <| .op 4 rfl (alP (s := 1) ze92 ⟨rfl, by decide, rfl⟩ rfl) <| .op 0 rfl (stB (cs0 := [.val (.string ⟨#[]⟩)]) (cs := [.val (.string t303_1)]) (cs1 := [.val (.string t303_1)]) rfl rfl sz92 rfl ⟨Nat.le_of_ble_eq_true rfl, rfl⟩ rfl) <| .nil0) ?_
                      refine .seq <| .seq <| .reg0 rfl (.op 0 rfl (mvMp rfl) <| .op 0 rfl (ldG rfl sz92 ag92 rfl) <| .op 0 rfl (lkM (l := x80) (k := t303_1) mp93 rfl rfl rfl) <| .nil0) ?_
                      by_cases c99 : ((mget x80 t303_1).getD false) = true
                      · rw [if_pos c99] at h
                        refine .condT rfl c99 <| .exit rfl <| .keepL [0, 1, 2] [(2, i6 x24), (3, i6 a3), (4, .ptr 0 1 6 0 0), (11, .own 1 x79.length), (12, .mp 2), (14, i6 (x25.length : Int)), (70, .rows ((cutl x25 x28 (x25.length : Int)).map TConf.cells)), (71, i6 ((cutl x25 x28 (x25.length : Int)).length : Int)), (72, i6 x65), (86, .rows (t258_2.2.1.map TConf.cells)), (87, i6 (t258_2.2.1.length : Int)), (88, i6 x81)] [⟨6, [(TPds.lit a0)], 0, none⟩, ⟨2, x79.map TConf.cells, (max x26 (Int.toNat (x25.length : Int))), none⟩, (mpB kf92 (fun x => (bo x)) x80)] (by decide) (by decide) ⟨.free rfl rfl, .free rfl rfl, .ptr rfl, .own rfl, .mp rfl, .free rfl rfl, .free rfl rfl, .free rfl rfl, .free rfl rfl, .free rfl rfl, .free rfl rfl, .free rfl rfl, trivial⟩ ⟨⟨_, rfl, bcBox (all2_free rfl)⟩, ⟨_, rfl, bcRow (l := x79) sl51 (Nat.le_refl _) rfl⟩, ⟨_, rfl, bcMap (l := x80) (fun _ => rfl) rfl⟩, trivial⟩ ?_
                        exact hJ1 _ h
                      · rw [if_neg c99] at h
                        refine .condF rfl (nb c99) <| .skip <| .seq <| .seq <| .reg0 rfl (.op 0 rfl (mvO rfl) <| .op 0 rfl (lnO (l := x79) sl51 rfl rfl rfl) <| .op 0 rfl (mvV rfl) <| .op 0 rfl (geI rfl rfl) <| .nil0) ?_
                        by_cases c100 : (x79.length : Int) ≥ a3
                        · rw [if_pos c100] at h
                          refine .condT rfl (dt c100) <| .seq <| .reg0 rfl (.op 0 rfl (asV rfl) <| .op 0 rfl (asV rfl) <| .nil0) ?_
                          have q100 := hr3 _ h
                          have q101 := hr2 _ q100
                          have q102 := hr1 _ q101
                          replace q102 := q102.symm
                          subst q102
                          refine .k [(8, .rows (([] : List TConf).map TConf.cells)), (9, i6 3)] ⟨.nil, .free rfl rfl, trivial⟩ ?_
                          exact .ret rfl
                        · rw [if_neg c100] at h
                          refine .condF rfl (df c100) <| .skip <| .seq <| .reg0 rfl (.op 0 rfl (mvMp rfl) <| .op 0 rfl (ldG rfl sz92 ag92 rfl) <| .op 0 rfl (upM (l := x80) (k := t303_1) (v := true) mp93 rfl rfl rfl rfl) <| .nil0) ?_
                          obtain ⟨g308_3f, h⟩ := h
                          obtain ⟨g308_3, h⟩ := h
                          refine .room 0 <| .room 0 <| .reg0 rfl (.op 0 rfl (mvO rfl) <| .op 0 rfl (ldG rfl sz31 ag31 rfl) <| .op 5 rfl (bldL (s := 2) (cs := [i6 ((rdl t258_2.2.1 x81).P), .rows ((rdl t258_2.2.1 x81).W.map (cInt .i64))]) un51 sz31 ze31 ⟨by decide, rfl, by decide⟩ rfl rfl rfl rfl) <| .op 0 rfl (ap1 (l := x79) (rdl t258_2.2.1 x81) sl51 rfl rfl rfl g308_3f (elems_own (l := [(rdl t258_2.2.1 x81)]) rfl rfl) g308_3) <| .op 0 rfl (asO rfl) <| .nil0) ?_
                          refine .inBlock <| .keepL [0, 1, 2] [(2, i6 x24), (3, i6 a3), (4, .ptr 0 1 6 0 0), (11, .own 1 ((x79 ++ [(rdl t258_2.2.1 x81)]).length)), (12, .mp 2), (14, i6 (x25.length : Int)), (70, .rows ((cutl x25 x28 (x25.length : Int)).map TConf.cells)), (71, i6 ((cutl x25 x28 (x25.length : Int)).length : Int)), (72, i6 x65), (86, .rows (t258_2.2.1.map TConf.cells)), (87, i6 (t258_2.2.1.length : Int)), (88, i6 x81)] [⟨6, [(TPds.lit a0)], 0, none⟩, ⟨2, (x79 ++ [(rdl t258_2.2.1 x81)]).map TConf.cells, (max x26 (Int.toNat (x25.length : Int))), none⟩, (mpB kf92 (fun x => (bo x)) (mput x80 t303_1 true))] (by decide) (by decide) ⟨.free rfl rfl, .free rfl rfl, .ptr rfl, .own rfl, .mp rfl, .free rfl rfl, .free rfl rfl, .free rfl rfl, .free rfl rfl, .free rfl rfl, .free rfl rfl, .free rfl rfl, trivial⟩ ⟨⟨_, rfl, bcBox (all2_free rfl)⟩, ⟨_, rfl, bcRow (l := (x79 ++ [(rdl t258_2.2.1 x81)])) sl51 (Nat.le_refl _) rfl⟩, ⟨_, rfl, bcMap (l := (mput x80 t303_1 true)) (fun _ => rfl) rfl⟩, trivial⟩ ?_
                          exact hJ1 _ h
                  · rw [if_neg c96] at h
                    refine .condF rfl (df c96) <| .exit rfl <| .keepL [0, 1, 2] [(2, i6 x24), (3, i6 a3), (4, .ptr 0 1 6 0 0), (11, .own 1 x79.length), (12, .mp 2), (14, i6 (x25.length : Int)), (70, .rows ((cutl x25 x28 (x25.length : Int)).map TConf.cells)), (71, i6 ((cutl x25 x28 (x25.length : Int)).length : Int)), (72, i6 x65)] [⟨6, [(TPds.lit a0)], 0, none⟩, ⟨2, x79.map TConf.cells, (max x26 (Int.toNat (x25.length : Int))), none⟩, (mpB kf92 (fun x => (bo x)) x80)] (by decide) (by decide) ⟨.free rfl rfl, .free rfl rfl, .ptr rfl, .own rfl, .mp rfl, .free rfl rfl, .free rfl rfl, .free rfl rfl, .free rfl rfl, trivial⟩ ⟨⟨_, rfl, bcBox (all2_free rfl)⟩, ⟨_, rfl, bcRow (l := x79) sl51 (Nat.le_refl _) rfl⟩, ⟨_, rfl, bcMap (l := x80) (fun _ => rfl) rfl⟩, trivial⟩ ?_
                    exact hx3 _ h
              · rw [if_neg c85] at h
                refine .condT rfl (nt c85) <| .seq <| .reg0 rfl (.op 0 rfl (mvV rfl) <| .op 0 rfl (asV rfl) <| .op 0 rfl (asV rfl) <| .nil0) ?_
                have q103 := hr2 _ h
                have q104 := hr1 _ q103
                replace q104 := q104.symm
                subst q104
                refine .k [(8, .rows (([] : List TConf).map TConf.cells)), (9, i6 t258_2.2.2)] ⟨.nil, .free rfl rfl, trivial⟩ ?_
                exact .ret rfl
            · rw [if_neg c84] at h
              refine .condF rfl (df c84) <| .exit rfl <| .keepL [0, 1, 2] [(2, i6 x24), (3, i6 a3), (4, .ptr 0 1 6 0 0), (11, .own 1 x63.length), (12, .mp 2), (14, i6 (x25.length : Int))] [⟨6, [(TPds.lit a0)], 0, none⟩, ⟨2, x63.map TConf.cells, (max x26 (Int.toNat (x25.length : Int))), none⟩, (mpB kf92 (fun x => (bo x)) x64)] (by decide) (by decide) ⟨.free rfl rfl, .free rfl rfl, .ptr rfl, .own rfl, .mp rfl, .free rfl rfl, trivial⟩ ⟨⟨_, rfl, bcBox (all2_free rfl)⟩, ⟨_, rfl, bcRow (l := x63) sl51 (Nat.le_refl _) rfl⟩, ⟨_, rfl, bcMap (l := x64) (fun _ => rfl) rfl⟩, trivial⟩ ?_
              exact hx2 _ h
        · rw [if_neg c59] at h
          refine .condF rfl (nb c59) <| .exit rfl <| .keepL [1] [(11, .own 0 x25.length)] [⟨2, x25.map TConf.cells, x26, none⟩] (by decide) (by decide) ⟨.own rfl, trivial⟩ ⟨⟨_, rfl, bcRow (l := x25) sl51 (Nat.le_refl _) rfl⟩, trivial⟩ ?_
          exact hx1 _ h
  · rw [if_neg c1] at h
    refine .condT rfl (nt c1) <| .seq <| .reg0 rfl (.op 0 rfl (mvV rfl) <| .op 0 rfl (asV rfl) <| .op 0 rfl (asV rfl) <| .nil0) ?_
    replace h := h.symm
    subst h
    refine .k [(8, .rows (([] : List TConf).map TConf.cells)), (9, i6 t2_2)] ⟨.nil, .free rfl rfl, trivial⟩ ?_
    exact .ret rfl
end Go.RM.Tryz
