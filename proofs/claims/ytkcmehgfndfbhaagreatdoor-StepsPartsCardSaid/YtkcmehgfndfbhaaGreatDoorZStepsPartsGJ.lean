/- GJ, for the statement StepsParts: what it needs, no more. -/
import Derived.Test.YtkcmehgfndfbhaaGreatDoorZStepsPartsGI
set_option linter.unusedVariables false
set_option maxRecDepth 8000
set_option maxHeartbeats 4000000
namespace Go.RM.Tryz
open Go.RM Go.Proofs
abbrev GJ_c0 : List PV := [bo false, i6 0, u6 0, nul, nul, nul]
abbrev GJ_c1 : List PV := [bo false, i6 0, u6 0, .rows (([] : List Int).map (cInt .u64)), .rows (([] : List TCell).map TCell.cells), .rows (([] : List TWeight).map TWeight.cells)]
def r03_One.b1 (a0 : Int) : ((List Int) × Int) → Rnd (((List Int) × Int)) ((List Int)) (TFacts × Int) → Prop := fun (x2, x3) z1 => if x3 < a0 then (∃ t12_3 : Int, (r01_Worth.f x3 t12_3) ∧ ((Fits (x2.length + 1) 8)) ∧ z1 = .next ((x2 ++ [t12_3]), (IntKind.i64.wrap (x3 + 1)))) else (z1 = .exit x2)
def r03_One.f (a0 : Int) (r : TFacts × Int) : Prop :=
  ∃ t2_1 : Bool, (r03_dim.f a0 t2_1) ∧ if t2_1 = true then (∃ o1 : Fin ((List Int)) (TFacts × Int), Loop (r03_One.b1 a0) ([], 0) o1 ∧ o1.on (fun x4 => r = ((TFacts.mk 0 x4), 0)) (fun r_ => r = r_)) else (r = ((TFacts.mk 0 []), 31))
theorem r03_One.D {a0 r} (h : r03_One.f a0 r) : D Tryz.prog X (.callH 61 [.val (.int .i64 a0)] [] (.tuple [.agg (TFacts.lit r.1), .val (.int .i64 r.2)]) []) := by
  unfold r03_One.f at h
  refine .enter 24 0 fn61 rfl rfl rfl <| .seq <| .room 0 <| .reg0 rfl (.op 0 rfl (alP (s := 2) ze35 ⟨rfl, by decide, rfl⟩ rfl) <| .op 0 rfl (asV rfl) <| .nil0) <| .seq <| .seq ?_
  obtain ⟨t2_1, g2_1, h⟩ := h
  refine .reg0 rfl (.m rfl <| .c rfl go93 rfl rfl rfl (r03_dim.D g2_1) <| .o (notB rfl) <| .nil0) ?_
  by_cases c1 : t2_1 = true
  · rw [if_pos c1] at h
    refine .condF rfl (bnotF c1) <| .skip <| .seq <| .room 0 <| .reg0 rfl (.op 0 rfl (bldS (cs := [u6 0, nul]) ze35 pl35 rfl rfl) <| .op 1 rfl (alP (s := 2) ze35 ⟨rfl, by decide, rfl⟩ rfl) <| .op 0 rfl (stB (cs0 := [u6 0, nul]) (cs := [u6 0, nul]) (cs1 := [u6 0, nul]) rfl rfl sz35 rfl ⟨Nat.le_of_ble_eq_true rfl, rfl⟩ rfl) <| .nil0) <| .seq <| .seq <| .reg0 rfl (.op 0 rfl (asV rfl) <| .nil0) <| .block <| .room 1 <| .keepL [0, 1, 2] [(0, i6 a0), (2, .ptr 0 1 2 0 0), (4, .ptr 1 1 2 0 0), (5, i6 0)] [⟨2, [[u6 0, nul]], 0, none⟩, ⟨2, [[u6 0, .own 2 0]], 0, none⟩, ⟨1, [].map (cInt .u64), 0, none⟩] (by decide) (by decide) ⟨.free rfl rfl, .ptr rfl, .ptr rfl, .free rfl rfl, trivial⟩ ⟨⟨_, rfl, bcBox (all2_free rfl)⟩, ⟨_, rfl, bcBox (.cons (.free rfl rfl) <| .cons (.nilOwn) <| .nil)⟩, ⟨_, rfl, (bcRow (l := []) sl33 (Nat.le_refl _) rfl)⟩, trivial⟩ ?_
    obtain ⟨o1, hL1, h⟩ := h
    refine .loopB (r03_One.b1 a0) (fun (x2, x3) => listEnv [(0, i6 a0), (2, .ptr 0 1 2 0 0), (4, .ptr 1 1 2 0 0), (5, i6 x3)]) (fun (x2, x3) => [⟨2, [[u6 0, nul]], 0, none⟩, ⟨2, [[u6 0, .own 2 x2.length]], 0, none⟩, ⟨1, x2.map (cInt .u64), 0, none⟩]) (fun x4 => listEnv [(2, .ptr 0 1 2 0 0), (4, .ptr 1 1 2 0 0)]) (fun x4 => [⟨2, [[u6 0, nul]], 0, none⟩, ⟨2, [[u6 0, .own 2 x4.length]], 0, none⟩, ⟨1, x4.map (cInt .u64), 0, none⟩]) hL1 (fun r_ => r = r_) ?_ ?_ ?_
    · rintro x4 rfl
      try dsimp only [Fin.on] at h
      refine .seq <| .reg0 rfl (.op 0 rfl (ldG rfl sz35 ag35 rfl) <| .op 0 rfl (stB (cs0 := [u6 0, nul]) (cs := [u6 0, .own 2 x4.length]) (cs1 := [u6 0, .own 2 x4.length]) rfl rfl sz35 rfl ⟨Nat.le_of_ble_eq_true rfl, rfl⟩ rfl) <| .op 0 rfl (asV rfl) <| .nil0) ?_
      replace h := h.symm
      subst h
      refine .k [(2, .cptr [u6 0, .rows (x4.map (cInt .u64))] 0), (3, i6 0)] ⟨cFixP rfl rfl (.cons (.free rfl rfl) <| .cons (cFixO (l := x4) sl33 rfl rfl rfl rfl) <| .nil), .free rfl rfl, trivial⟩ ?_
      exact .ret rfl
    · rintro r_ rfl
      exact h
    · rintro ⟨x2, x3⟩ z1 h hn1 hx1 hr1
      dsimp only [r03_One.b1] at h
      refine .seq <| .seq <| .reg0 rfl (.op 0 rfl (mvV rfl) <| .op 0 rfl (mvV rfl) <| .op 0 rfl (ltI rfl rfl) <| .nil0) ?_
      by_cases c4 : x3 < a0
      · rw [if_pos c4] at h
        refine .condT rfl (dt c4) <| .skip <| .seq <| .block ?_
        obtain ⟨t12_3, g12_3, h⟩ := h
        obtain ⟨g12_5, h⟩ := h
        refine .room 0 <| .room 0 ?_
        refine .reg1 (e1 := listEnv [(0, i6 a0), (2, .ptr 0 1 2 0 0), (4, .ptr 1 1 2 0 0), (5, i6 x3)]) (H1 := [⟨2, [[u6 0, nul]], 0, none⟩, ⟨2, [[u6 0, .own 2 ((x2 ++ [t12_3]).length)]], 0, none⟩, ⟨1, (x2 ++ [t12_3]).map (cInt .u64), 0, none⟩, ⟨1, [t12_3].map (cInt .u64), 0, none⟩, Blk.hole]) rfl ?_ ?_
        · exact .drawM [(6, 22, .ptr 1 1 2 0 1), (5, 21, .own 2 ((x2 ++ [t12_3]).length)), (4, 20, .own 3 ([t12_3].length)), (3, 19, u6 t12_3), (2, 18, i6 x3), (1, 17, .own 2 x2.length), (0, 16, .ptr 1 1 2 0 1)] [(7, 1, ⟨2, [[u6 0, .own 2 ((x2 ++ [t12_3]).length)]], 0, none⟩), (5, 2, ⟨1, (x2 ++ [t12_3]).map (cInt .u64), 0, none⟩), (4, 3, ⟨1, [t12_3].map (cInt .u64), 0, none⟩)] [[], [0], [], [2], [3, 2], [1, 0, 4, 3, 2], [0, 1, 2, 3, 4, 5], [6, 0, 1, 2, 3, 4, 5]] (by rfl) (by rfl) (by rfl) (by exact ⟨oP (fun _ => faP fa35_1 rfl) rfl, oP (fun _ => ldP rfl sz33 ag33 rfl) rfl, oP (fun _ => mvV rfl) rfl, fun S hS hD hn => .oneI hS hD hn rfl rfl (callee_of rfl go62 rfl) (.pure rfl rfl (r01_Worth.D g12_3)) rfl rfl rfl, oW 3 (fun _ => bldL (s := 1) (cs := [u6 t12_3]) un33 sz32 ze32 ⟨by decide, rfl, by decide⟩ rfl rfl rfl rfl) rfl fun _ => rfl, oW 0 (fun _ => ap1 (l := x2) t12_3 sl33 rfl rfl rfl (Nat.zero_le _) (elems_own (l := [t12_3]) rfl rfl) g12_5) rfl fun _ => rfl, oP (fun _ => faP fa35_1 rfl) rfl, fun S hS hD hn => .one0 0 rfl rfl (stB (cs0 := [u6 0, .own 2 x2.length]) (cs := [.own 2 ((x2 ++ [t12_3]).length)]) (cs1 := [u6 0, .own 2 ((x2 ++ [t12_3]).length)]) rfl rfl sz33 rfl ⟨Nat.le_of_ble_eq_true rfl, rfl⟩ rfl) (drawE_other _ _ _ _ rfl) rfl, trivial⟩) _ (by exact ⟨.free rfl rfl, .ptr rfl, .ptr rfl, .free rfl rfl, trivial⟩) (by rfl)
        refine .inBlock <| .reg0 rfl (.op 0 rfl (mvV rfl) <| .op 0 rfl (addI rfl rfl) <| .op 0 rfl (asV rfl) <| .nil0) <| .keepL [0, 1, 2] [(0, i6 a0), (2, .ptr 0 1 2 0 0), (4, .ptr 1 1 2 0 0), (5, i6 (IntKind.i64.wrap (x3 + 1)))] [⟨2, [[u6 0, nul]], 0, none⟩, ⟨2, [[u6 0, .own 2 ((x2 ++ [t12_3]).length)]], 0, none⟩, ⟨1, (x2 ++ [t12_3]).map (cInt .u64), 0, none⟩] (by decide) (by decide) ⟨.free rfl rfl, .ptr rfl, .ptr rfl, .free rfl rfl, trivial⟩ ⟨⟨_, rfl, bcBox (all2_free rfl)⟩, ⟨_, rfl, bcBox (.cons (.free rfl rfl) <| .cons (.own rfl) <| .nil)⟩, ⟨_, rfl, bcRow (l := (x2 ++ [t12_3])) sl33 (Nat.le_refl _) rfl⟩, trivial⟩ ?_
        exact hn1 _ h
      · rw [if_neg c4] at h
        refine .condF rfl (df c4) <| .exit rfl <| .keepL [0, 1, 2] [(2, .ptr 0 1 2 0 0), (4, .ptr 1 1 2 0 0)] [⟨2, [[u6 0, nul]], 0, none⟩, ⟨2, [[u6 0, .own 2 x2.length]], 0, none⟩, ⟨1, x2.map (cInt .u64), 0, none⟩] (by decide) (by decide) ⟨.ptr rfl, .ptr rfl, trivial⟩ ⟨⟨_, rfl, bcBox (all2_free rfl)⟩, ⟨_, rfl, bcBox (.cons (.free rfl rfl) <| .cons (.own rfl) <| .nil)⟩, ⟨_, rfl, bcRow (l := x2) sl33 (Nat.le_refl _) rfl⟩, trivial⟩ ?_
        exact hx1 _ h
  · rw [if_neg c1] at h
    refine .condT rfl (bnotT (nb c1)) <| .seq <| .reg0 rfl (.op 0 rfl (bldS (cs := [u6 0, nul]) ze35 pl35 rfl rfl) <| .op 0 rfl (stB (cs0 := [u6 0, nul]) (cs := [u6 0, nul]) (cs1 := [u6 0, nul]) rfl rfl sz35 rfl ⟨Nat.le_of_ble_eq_true rfl, rfl⟩ rfl) <| .op 0 rfl (asV rfl) <| .nil0) ?_
    replace h := h.symm
    subst h
    refine .k [(2, .cptr [u6 0, .rows (([] : List Int).map (cInt .u64))] 0), (3, i6 31)] ⟨cFixP rfl rfl (.cons (.free rfl rfl) <| .cons (.nil) <| .nil), .free rfl rfl, trivial⟩ ?_
    exact .ret rfl
def r05_one.b1 (a0 : TSpace) : ((List TCell) × Int) → Rnd (((List TCell) × Int)) ((List TCell)) TWeight → Prop := fun (x2, x3) z1 => if x3 < a0.Dim then (∃ t16_3 : Int, (r01_Worth.f x3 t16_3) ∧ ((Fits (x2.length + 1) 24)) ∧ z1 = .next ((x2 ++ [(TCell.mk t16_3 0 0)]), (IntKind.i64.wrap (x3 + 1)))) else (z1 = .exit x2)
def r05_one.step (self40 : TSpace → TWeight → Prop) (a0 : TSpace) (r : TWeight) : Prop :=
  if a0.Tag = 3 then (∃ t5_2 : TFacts × Int, (r03_One.f a0.Dim t5_2) ∧ r = (TWeight.mk false 0 t5_2.1 [] [])) else (if a0.Tag = 4 then (∃ o1 : Fin ((List TCell)) TWeight, Loop (r05_one.b1 a0) ([], 0) o1 ∧ o1.on (fun x4 => r = (TWeight.mk false 0 (TFacts.mk 0 []) x4 [])) (fun r_ => r = r_)) else (if a0.Tag = 5 then (((InR 0 a0.Parts.length)) ∧ ∃ t20_4 : TWeight, (self40 (rdl a0.Parts 0) t20_4) ∧ ((InR 1 a0.Parts.length)) ∧ ∃ t20_9 : TWeight, (self40 (rdl a0.Parts 1) t20_9) ∧ r = (TWeight.mk false 0 (TFacts.mk 0 []) [] [t20_4, t20_9])) else (r = (TWeight.mk false 0 (TFacts.mk 0 []) [] []))))
theorem r05_one.stepD {self40 : TSpace → TWeight → Prop} {a0 : TSpace} (hs40 : ∀ z0_ r_, self40 z0_ r_ → D Tryz.prog X (.callH 40 [.agg (TSpace.lit z0_)] [] (.agg (TWeight.lit r_)) [])) {r : TWeight} (h : r05_one.step self40 a0 r) : D Tryz.prog X (.callH 40 [.agg (TSpace.lit a0)] [] (.agg (TWeight.lit r)) []) := by
  unfold r05_one.step at h
  refine .enter 48 0 fn40 rfl rfl rfl <| .seq <| .room 0 <| .room 0 <| .reg0 rfl (.op 0 rfl (bxP (s := 3) (cs := (TSpace.lit a0)) rfl ⟨rfl, by decide, rfl⟩ rfl) <| .op 1 rfl (alP (s := 6) ze39 ⟨rfl, by decide, rfl⟩ rfl) <| .nil0) <| .seq <| .room 0 <| .reg0 rfl (.op 0 rfl (bldS (cs := GJ_c0) ze39 pl39 rfl rfl) <| .op 2 rfl (alP (s := 6) ze39 ⟨rfl, by decide, rfl⟩ rfl) <| .op 0 rfl (stB (cs0 := GJ_c0) (cs := GJ_c0) (cs1 := GJ_c0) rfl rfl sz39 rfl ⟨Nat.le_of_ble_eq_true rfl, rfl⟩ rfl) <| .nil0) ?_
  refine .seq <| .seq <| .reg0 rfl (.op 0 rfl (faP fa25_0 rfl) <| .op 0 rfl (ldP rfl sz22 ag22 rfl) <| .nil0) <| .block <| .seq <| .reg0 rfl (.op 0 rfl (eqI rfl rfl) <| .op 0 rfl (asV rfl) <| .nil0) ?_
  by_cases c1 : a0.Tag = 3
  · rw [if_pos c1] at h
    refine .condT rfl (bt c1) ?_
    obtain ⟨t5_2, g5_2, h⟩ := h
    refine .reg0 rfl (.o (faP fa25_1 rfl) <| .o (ldP rfl sz3 ag3 rfl) <| .c rfl go61 rfl rfl rfl (r03_One.D g5_2) <| .o (mvT rfl) <| .o (exT rfl rfl) <| .o (exT rfl rfl) <| .o (faP fa39_2 rfl) <| .o (stB (cs0 := GJ_c0) (cs := (TFacts.lit t5_2.1)) (cs1 := [bo false, i6 0, u6 t5_2.1.Gen, .rows (t5_2.1.Rows.map (cInt .u64)), nul, nul]) rfl rfl sz35 rfl ⟨Nat.le_of_ble_eq_true rfl, rfl⟩ rfl) <| .nil0) ?_
    refine .inBlock <| .seq <| .reg0 rfl (.op 0 rfl (ldG rfl sz39 ag39 rfl) <| .op 0 rfl (stB (cs0 := GJ_c0) (cs := [bo false, i6 0, u6 t5_2.1.Gen, .rows (t5_2.1.Rows.map (cInt .u64)), nul, nul]) (cs1 := [bo false, i6 0, u6 t5_2.1.Gen, .rows (t5_2.1.Rows.map (cInt .u64)), nul, nul]) rfl rfl sz39 rfl ⟨Nat.le_of_ble_eq_true rfl, rfl⟩ rfl) <| .nil0) ?_
    replace h := h.symm
    subst h
    refine .k [(2, .cptr [bo false, i6 0, u6 t5_2.1.Gen, .rows (t5_2.1.Rows.map (cInt .u64)), .rows (([] : List TCell).map TCell.cells), .rows (([] : List TWeight).map TWeight.cells)] 0)] ⟨cFixP rfl rfl (.cons (.free rfl rfl) <| .cons (.free rfl rfl) <| .cons (.free rfl rfl) <| .cons (.free rfl rfl) <| .cons (.nil) <| .cons (.nil) <| .nil), trivial⟩ ?_
    exact .ret rfl
  · rw [if_neg c1] at h
    refine .condF rfl (bn c1) <| .seq <| .reg0 rfl (.op 0 rfl (eqI rfl rfl) <| .op 0 rfl (asV rfl) <| .nil0) ?_
    by_cases c2 : a0.Tag = 4
    · rw [if_pos c2] at h
      refine .condT rfl (bt c2) <| .seq <| .reg0 rfl (.op 0 rfl (asV rfl) <| .nil0) <| .block <| .room 3 <| .keepL [0, 1, 2, 3] [(1, .ptr 0 1 3 0 0), (2, .ptr 1 1 6 0 0), (3, .ptr 2 1 6 0 0), (4, i6 0)] [⟨3, [(TSpace.lit a0)], 0, none⟩, ⟨6, [GJ_c0], 0, none⟩, ⟨6, [[bo false, i6 0, u6 0, nul, .own 3 0, nul]], 0, none⟩, ⟨3, [].map TCell.cells, 0, none⟩] (by decide) (by decide) ⟨.ptr rfl, .ptr rfl, .ptr rfl, .free rfl rfl, trivial⟩ ⟨⟨_, rfl, bcBox (all2_free rfl)⟩, ⟨_, rfl, bcBox (all2_free rfl)⟩, ⟨_, rfl, bcBox (.cons (.free rfl rfl) <| .cons (.free rfl rfl) <| .cons (.free rfl rfl) <| .cons (.free rfl rfl) <| .cons (.nilOwn) <| .cons (.free rfl rfl) <| .nil)⟩, ⟨_, rfl, (bcRow (l := []) sl36 (Nat.le_refl _) rfl)⟩, trivial⟩ ?_
      obtain ⟨o1, hL1, h⟩ := h
      refine .loopB (r05_one.b1 a0) (fun (x2, x3) => listEnv [(1, .ptr 0 1 3 0 0), (2, .ptr 1 1 6 0 0), (3, .ptr 2 1 6 0 0), (4, i6 x3)]) (fun (x2, x3) => [⟨3, [(TSpace.lit a0)], 0, none⟩, ⟨6, [GJ_c0], 0, none⟩, ⟨6, [[bo false, i6 0, u6 0, nul, .own 3 x2.length, nul]], 0, none⟩, ⟨3, x2.map TCell.cells, 0, none⟩]) (fun x4 => listEnv [(2, .ptr 0 1 6 0 0), (3, .ptr 1 1 6 0 0)]) (fun x4 => [⟨6, [GJ_c0], 0, none⟩, ⟨6, [[bo false, i6 0, u6 0, nul, .own 2 x4.length, nul]], 0, none⟩, ⟨3, x4.map TCell.cells, 0, none⟩]) hL1 (fun r_ => r = r_) ?_ ?_ ?_
      · rintro x4 rfl
        try dsimp only [Fin.on] at h
        refine .inBlock <| .seq <| .reg0 rfl (.op 0 rfl (ldG rfl sz39 ag39 rfl) <| .op 0 rfl (stB (cs0 := GJ_c0) (cs := [bo false, i6 0, u6 0, nul, .own 2 x4.length, nul]) (cs1 := [bo false, i6 0, u6 0, nul, .own 2 x4.length, nul]) rfl rfl sz39 rfl ⟨Nat.le_of_ble_eq_true rfl, rfl⟩ rfl) <| .nil0) ?_
        replace h := h.symm
        subst h
        refine .k [(2, .cptr [bo false, i6 0, u6 0, .rows (([] : List Int).map (cInt .u64)), .rows (x4.map TCell.cells), .rows (([] : List TWeight).map TWeight.cells)] 0)] ⟨cFixP rfl rfl (.cons (.free rfl rfl) <| .cons (.free rfl rfl) <| .cons (.free rfl rfl) <| .cons (.nil) <| .cons (cFixO (l := x4) sl36 rfl rfl rfl rfl) <| .cons (.nil) <| .nil), trivial⟩ ?_
        exact .ret rfl
      · rintro r_ rfl
        exact h
      · rintro ⟨x2, x3⟩ z1 h hn1 hx1 hr1
        dsimp only [r05_one.b1] at h
        refine .seq <| .seq <| .reg0 rfl (.op 0 rfl (mvV rfl) <| .op 0 rfl (faP fa25_1 rfl) <| .op 0 rfl (ldP rfl sz3 ag3 rfl) <| .op 0 rfl (ltI rfl rfl) <| .nil0) ?_
        by_cases c5 : x3 < a0.Dim
        · rw [if_pos c5] at h
          refine .condT rfl (dt c5) <| .skip <| .seq <| .block ?_
          obtain ⟨t16_3, g16_3, h⟩ := h
          obtain ⟨g16_6, h⟩ := h
          refine .room 0 <| .room 0 ?_
          refine .reg1 (e1 := listEnv [(1, .ptr 0 1 3 0 0), (2, .ptr 1 1 6 0 0), (3, .ptr 2 1 6 0 0), (4, i6 x3)]) (H1 := [⟨3, [(TSpace.lit a0)], 0, none⟩, ⟨6, [GJ_c0], 0, none⟩, ⟨6, [[bo false, i6 0, u6 0, nul, .own 3 ((x2 ++ [(TCell.mk t16_3 0 0)]).length), nul]], 0, none⟩, ⟨3, (x2 ++ [(TCell.mk t16_3 0 0)]).map TCell.cells, 0, none⟩, ⟨3, [(TCell.mk t16_3 0 0)].map TCell.cells, 0, none⟩, Blk.hole]) rfl ?_ ?_
          · exact .drawM [(7, 32, .ptr 2 1 6 0 4), (6, 31, .own 3 ((x2 ++ [(TCell.mk t16_3 0 0)]).length)), (5, 30, .own 4 ([(TCell.mk t16_3 0 0)].length)), (4, 29, .agg [u6 t16_3, i6 0, i6 0]), (3, 28, u6 t16_3), (2, 27, i6 x3), (1, 26, .own 3 x2.length), (0, 25, .ptr 2 1 6 0 4)] [(8, 2, ⟨6, [[bo false, i6 0, u6 0, nul, .own 3 ((x2 ++ [(TCell.mk t16_3 0 0)]).length), nul]], 0, none⟩), (6, 3, ⟨3, (x2 ++ [(TCell.mk t16_3 0 0)]).map TCell.cells, 0, none⟩), (5, 4, ⟨3, [(TCell.mk t16_3 0 0)].map TCell.cells, 0, none⟩)] [[], [0], [], [2], [3, 2], [4, 3, 2], [1, 0, 5, 4, 3, 2], [0, 1, 2, 3, 4, 5, 6], [7, 0, 1, 2, 3, 4, 5, 6]] (by rfl) (by rfl) (by rfl) (by exact ⟨oP (fun _ => faP fa39_3 rfl) rfl, oP (fun _ => ldP rfl sz36 ag36 rfl) rfl, oP (fun _ => mvV rfl) rfl, fun S hS hD hn => .oneI hS hD hn rfl rfl (callee_of rfl go62 rfl) (.pure rfl rfl (r01_Worth.D g16_3)) rfl rfl rfl, oP (fun _ => bldS (cs := [u6 t16_3, i6 0, i6 0]) ze81 pl81 rfl rfl) rfl, oW 4 (fun _ => bldL (s := 3) (cs := [u6 t16_3, i6 0, i6 0]) un36 sz81 ze81 ⟨by decide, rfl, by decide⟩ rfl rfl rfl rfl) rfl fun _ => rfl, oW 0 (fun _ => ap1 (l := x2) (TCell.mk t16_3 0 0) sl36 rfl rfl rfl (Nat.zero_le _) (elems_own (l := [(TCell.mk t16_3 0 0)]) rfl rfl) g16_6) rfl fun _ => rfl, oP (fun _ => faP fa39_3 rfl) rfl, fun S hS hD hn => .one0 0 rfl rfl (stB (cs0 := [bo false, i6 0, u6 0, nul, .own 3 x2.length, nul]) (cs := [.own 3 ((x2 ++ [(TCell.mk t16_3 0 0)]).length)]) (cs1 := [bo false, i6 0, u6 0, nul, .own 3 ((x2 ++ [(TCell.mk t16_3 0 0)]).length), nul]) rfl rfl sz36 rfl ⟨Nat.le_of_ble_eq_true rfl, rfl⟩ rfl) (drawE_other _ _ _ _ rfl) rfl, trivial⟩) _ (by exact ⟨.ptr rfl, .ptr rfl, .ptr rfl, .free rfl rfl, trivial⟩) (by rfl)
          refine .inBlock <| .reg0 rfl (.op 0 rfl (mvV rfl) <| .op 0 rfl (addI rfl rfl) <| .op 0 rfl (asV rfl) <| .nil0) <| .keepL [0, 1, 2, 3] [(1, .ptr 0 1 3 0 0), (2, .ptr 1 1 6 0 0), (3, .ptr 2 1 6 0 0), (4, i6 (IntKind.i64.wrap (x3 + 1)))] [⟨3, [(TSpace.lit a0)], 0, none⟩, ⟨6, [GJ_c0], 0, none⟩, ⟨6, [[bo false, i6 0, u6 0, nul, .own 3 ((x2 ++ [(TCell.mk t16_3 0 0)]).length), nul]], 0, none⟩, ⟨3, (x2 ++ [(TCell.mk t16_3 0 0)]).map TCell.cells, 0, none⟩] (by decide) (by decide) ⟨.ptr rfl, .ptr rfl, .ptr rfl, .free rfl rfl, trivial⟩ ⟨⟨_, rfl, bcBox (all2_free rfl)⟩, ⟨_, rfl, bcBox (all2_free rfl)⟩, ⟨_, rfl, bcBox (.cons (.free rfl rfl) <| .cons (.free rfl rfl) <| .cons (.free rfl rfl) <| .cons (.free rfl rfl) <| .cons (.own rfl) <| .cons (.free rfl rfl) <| .nil)⟩, ⟨_, rfl, bcRow (l := (x2 ++ [(TCell.mk t16_3 0 0)])) sl36 (Nat.le_refl _) rfl⟩, trivial⟩ ?_
          exact hn1 _ h
        · rw [if_neg c5] at h
          refine .condF rfl (df c5) <| .exit rfl <| .keepL [1, 2, 3] [(2, .ptr 0 1 6 0 0), (3, .ptr 1 1 6 0 0)] [⟨6, [GJ_c0], 0, none⟩, ⟨6, [[bo false, i6 0, u6 0, nul, .own 2 x2.length, nul]], 0, none⟩, ⟨3, x2.map TCell.cells, 0, none⟩] (by decide) (by decide) ⟨.ptr rfl, .ptr rfl, trivial⟩ ⟨⟨_, rfl, bcBox (all2_free rfl)⟩, ⟨_, rfl, bcBox (.cons (.free rfl rfl) <| .cons (.free rfl rfl) <| .cons (.free rfl rfl) <| .cons (.free rfl rfl) <| .cons (.own rfl) <| .cons (.free rfl rfl) <| .nil)⟩, ⟨_, rfl, bcRow (l := x2) sl36 (Nat.le_refl _) rfl⟩, trivial⟩ ?_
          exact hx1 _ h
    · rw [if_neg c2] at h
      refine .condF rfl (bn c2) <| .seq <| .reg0 rfl (.op 0 rfl (eqI rfl rfl) <| .op 0 rfl (asV rfl) <| .nil0) ?_
      by_cases c6 : a0.Tag = 5
      · rw [if_pos c6] at h
        refine .condT rfl (bt c6) ?_
        obtain ⟨g20_2, h⟩ := h
        obtain ⟨t20_4, g20_4, h⟩ := h
        obtain ⟨g20_7, h⟩ := h
        obtain ⟨t20_9, g20_9, h⟩ := h
        refine .room 0 ?_
        refine .reg1 (e1 := listEnv [(2, .ptr 1 1 6 0 0), (3, .ptr 2 1 6 0 0)]) (H1 := [⟨3, [(TSpace.lit a0)], 0, none⟩, ⟨6, [GJ_c0], 0, none⟩, ⟨6, [[bo false, i6 0, u6 0, nul, nul, .own 3 ([t20_4, t20_9].length)]], 0, none⟩, ⟨6, [t20_4, t20_9].map TWeight.cells, 0, none⟩]) rfl ?_ ?_
        · exact .drawM [(11, 46, .ptr 2 1 6 0 5), (10, 45, .own 3 ([t20_4, t20_9].length)), (9, 44, .agg (TWeight.lit t20_9)), (8, 43, .agg (TSpace.lit (rdl a0.Parts 1))), (7, 42, .cptr (TSpace.lit (rdl a0.Parts 1)) 0), (6, 41, .rows (a0.Parts.map TSpace.cells)), (5, 40, .ptr 0 1 3 0 2), (4, 39, .agg (TWeight.lit t20_4)), (3, 38, .agg (TSpace.lit (rdl a0.Parts 0))), (2, 37, .cptr (TSpace.lit (rdl a0.Parts 0)) 0), (1, 36, .rows (a0.Parts.map TSpace.cells)), (0, 35, .ptr 0 1 3 0 2)] [(12, 2, ⟨6, [[bo false, i6 0, u6 0, nul, nul, .own 3 ([t20_4, t20_9].length)]], 0, none⟩), (10, 3, ⟨6, [t20_4, t20_9].map TWeight.cells, 0, none⟩)] [[], [0], [1, 0], [2, 1, 0], [3, 2, 1, 0], [], [5], [6, 5], [7, 6, 5], [8, 7, 6, 5, 4, 3, 2, 1, 0], [4, 3, 2, 1, 0, 9, 8, 7, 6, 5], [0, 1, 2, 3, 4, 5, 6, 7, 8, 9, 10], [11, 0, 1, 2, 3, 4, 5, 6, 7, 8, 9, 10]] (by rfl) (by rfl) (by rfl) (by exact ⟨oP (fun _ => faP fa25_2 rfl) rfl, oP (fun _ => ldP rfl sz23 ag23 rfl) rfl, oP (fun _ => ixR (l := a0.Parts) (lit := TSpace.lit) sl23 rfl rfl TSpace.cells_lit g20_2.1 g20_2.2) rfl, oP (fun _ => ldCG rfl sz25 ag25 rfl) rfl, fun S hS hD hn => .oneI hS hD hn rfl rfl (callee_of rfl go40 rfl) (.pure rfl rfl (hs40 _ _ g20_4)) rfl rfl rfl, oP (fun _ => faP fa25_2 rfl) rfl, oP (fun _ => ldP rfl sz23 ag23 rfl) rfl, oP (fun _ => ixR (l := a0.Parts) (lit := TSpace.lit) sl23 rfl rfl TSpace.cells_lit g20_7.1 g20_7.2) rfl, oP (fun _ => ldCG rfl sz25 ag25 rfl) rfl, fun S hS hD hn => .oneI hS hD hn rfl rfl (callee_of rfl go40 rfl) (.pure rfl rfl (hs40 _ _ g20_9)) rfl rfl rfl, oW 3 (fun _ => bldT (s := 6) (cs := [bo t20_4.Zero, i6 t20_4.Cost, u6 t20_4.Facts.Gen, .rows (t20_4.Facts.Rows.map (cInt .u64)), .rows (t20_4.Cells.map TCell.cells), .rows (t20_4.Parts.map TWeight.cells), bo t20_9.Zero, i6 t20_9.Cost, u6 t20_9.Facts.Gen, .rows (t20_9.Facts.Rows.map (cInt .u64)), .rows (t20_9.Cells.map TCell.cells), .rows (t20_9.Parts.map TWeight.cells)]) (cf := TWeight.cells) [t20_4, t20_9] un37 sz39 ze39 ⟨by decide, rfl, by decide⟩ rfl rfl rfl (by simp only [List.map, TWeight.cells_lit]; rfl) rfl) rfl fun _ => rfl, oP (fun _ => faP fa39_4 rfl) rfl, fun S hS hD hn => .one0 0 rfl rfl (stB (cs0 := GJ_c0) (cs := [.own 3 ([t20_4, t20_9].length)]) (cs1 := [bo false, i6 0, u6 0, nul, nul, .own 3 ([t20_4, t20_9].length)]) rfl rfl sz37 rfl ⟨Nat.le_of_ble_eq_true rfl, rfl⟩ rfl) (drawE_other _ _ _ _ rfl) rfl, trivial⟩) _ (by exact ⟨.ptr rfl, .ptr rfl, trivial⟩) (by rfl)
        refine .inBlock <| .seq <| .reg0 rfl (.op 0 rfl (ldG rfl sz39 ag39 rfl) <| .op 0 rfl (stB (cs0 := GJ_c0) (cs := [bo false, i6 0, u6 0, nul, nul, .own 3 ([t20_4, t20_9].length)]) (cs1 := [bo false, i6 0, u6 0, nul, nul, .own 3 ([t20_4, t20_9].length)]) rfl rfl sz39 rfl ⟨Nat.le_of_ble_eq_true rfl, rfl⟩ rfl) <| .nil0) ?_
        replace h := h.symm
        subst h
        refine .k [(2, .cptr [bo false, i6 0, u6 0, .rows (([] : List Int).map (cInt .u64)), .rows (([] : List TCell).map TCell.cells), .rows ([t20_4, t20_9].map TWeight.cells)] 0)] ⟨cFixP rfl rfl (.cons (.free rfl rfl) <| .cons (.free rfl rfl) <| .cons (.free rfl rfl) <| .cons (.nil) <| .cons (.nil) <| .cons (cFixO (l := [t20_4, t20_9]) sl37 rfl rfl rfl rfl) <| .nil), trivial⟩ ?_
        exact .ret rfl
      · rw [if_neg c6] at h
        refine .condF rfl (bn c6) <| .skip <| .inBlock <| .seq <| .reg0 rfl (.op 0 rfl (ldG rfl sz39 ag39 rfl) <| .op 0 rfl (stB (cs0 := GJ_c0) (cs := GJ_c0) (cs1 := GJ_c0) rfl rfl sz39 rfl ⟨Nat.le_of_ble_eq_true rfl, rfl⟩ rfl) <| .nil0) ?_
        replace h := h.symm
        subst h
        refine .k [(2, .cptr GJ_c1 0)] ⟨cFixP rfl rfl (.cons (.free rfl rfl) <| .cons (.free rfl rfl) <| .cons (.free rfl rfl) <| .cons (.nil) <| .cons (.nil) <| .cons (.nil) <| .nil), trivial⟩ ?_
        exact .ret rfl
def r05_one.fN : Nat → TSpace → TWeight → Prop
  | 0 => fun _ _ => False
  | n + 1 => r05_one.step (r05_one.fN n)
theorem r05_one.ND : ∀ (n : Nat) {a0 : TSpace} {r : TWeight} (h : r05_one.fN n a0 r), D Tryz.prog X (.callH 40 [.agg (TSpace.lit a0)] [] (.agg (TWeight.lit r)) [])
  | 0, _, _, h => h.elim
  | n + 1, _, _, h => r05_one.stepD (fun _ _ h => r05_one.ND n h) h
def r05_one.f (a0 : TSpace) (r : TWeight) : Prop := ∃ n, r05_one.fN n a0 r
theorem r05_one.D {a0 r} (h : r05_one.f a0 r) : D Tryz.prog X (.callH 40 [.agg (TSpace.lit a0)] [] (.agg (TWeight.lit r)) []) := by obtain ⟨n, h⟩ := h; exact r05_one.ND n h
def r03_two.f (a0 : Int) (a1 : TFacts) (a2 : TFacts) (r : Int) : Prop :=
  ∃ t2_2 : Int, (r03_Check.f a0 a1 t2_2) ∧ if t2_2 = 0 then (∃ t4_2 : Int, (r03_Check.f a0 a2 t4_2) ∧ r = t4_2) else (r = t2_2)
theorem r03_two.D {a0 a1 a2 r} (h : r03_two.f a0 a1 a2 r) : D Tryz.prog X (.callH 83 [.val (.int .i64 a0), .agg (TFacts.lit a1), .agg (TFacts.lit a2)] [] (.val (.int .i64 r)) []) := by
  unfold r03_two.f at h
  refine .enter 17 0 fn83 rfl rfl rfl <| .seq <| .room 0 <| .room 0 <| .reg0 rfl (.op 0 rfl (bxP (s := 2) (cs := (TFacts.lit a1)) rfl ⟨rfl, by decide, rfl⟩ rfl) <| .op 1 rfl (bxP (s := 2) (cs := (TFacts.lit a2)) rfl ⟨rfl, by decide, rfl⟩ rfl) <| .op 0 rfl (asV rfl) <| .nil0) <| .seq ?_
  obtain ⟨t2_2, g2_2, h⟩ := h
  refine .reg0 rfl (.m rfl <| .o (ldG rfl sz35 ag35 rfl) <| .c rfl go91 rfl rfl rfl (r03_Check.D g2_2) <| .a rfl <| .nil0) <| .seq <| .seq <| .reg0 rfl (.op 0 rfl (mvV rfl) <| .op 0 rfl (neI rfl rfl) <| .nil0) ?_
  by_cases c1 : t2_2 = 0
  · rw [if_pos c1] at h
    refine .condF rfl (nf c1) <| .skip <| .seq ?_
    obtain ⟨t4_2, g4_2, h⟩ := h
    refine .reg0 rfl (.m rfl <| .o (ldG rfl sz35 ag35 rfl) <| .c rfl go91 rfl rfl rfl (r03_Check.D g4_2) <| .a rfl <| .nil0) ?_
    replace h := h.symm
    subst h
    refine .kf [(6, i6 t4_2)] rfl rfl ?_
    exact .ret rfl
  · rw [if_neg c1] at h
    refine .condT rfl (nt c1) <| .seq <| .reg0 rfl (.op 0 rfl (mvV rfl) <| .op 0 rfl (asV rfl) <| .nil0) ?_
    replace h := h.symm
    subst h
    refine .kf [(6, i6 t2_2)] rfl rfl ?_
    exact .ret rfl
def r01_Has.f (a0 : Int) (a1 : Int) (r : Bool) : Prop :=
  ∃ t2_9 : Int, ((a1 ≥ 0) → (a1 < 64) → r01_Worth.f a1 t2_9) ∧ ((a1 ≥ 0) → (a1 < 64) → ((t2_9 : Int) ≠ 0)) ∧ r = ((decide (a1 ≥ 0)) && ((decide (a1 < 64)) && ((Int.tmod (IntKind.u64.wrap (Int.tdiv a0 t2_9)) 2) == 1)))
theorem r01_Has.D {a0 a1 r} (h : r01_Has.f a0 a1 r) : D Tryz.prog X (.callH 86 [.val (.int .u64 a0), .val (.int .i64 a1)] [] (.val (.bool r)) []) := by
  unfold r01_Has.f at h
  refine .enter 19 0 fn86 rfl rfl rfl <| .seq <| .reg0 rfl (.op 0 rfl (asV rfl) <| .nil0) <| .seq ?_
  obtain ⟨t2_9, g2_9, h⟩ := h
  obtain ⟨g2_10, h⟩ := h
  refine .reg0 (e1 := listEnv [(4, bo ((decide (a1 ≥ 0)) && ((decide (a1 < 64)) && ((Int.tmod (IntKind.u64.wrap (Int.tdiv a0 t2_9)) 2) == 1))))]) (H1 := []) rfl ?_ ?_
  · refine .m rfl <| .o (geI rfl rfl) <| .m rfl <| ?_
    by_cases c1 : a1 ≥ 0
    · refine .g rfl (dt c1) (mvV rfl) <| .g rfl (dt c1) (ltI rfl rfl) <| .o (pkTV rfl (dt c1) rfl) <| .m rfl <| ?_
      by_cases c2 : a1 < 64
      · exact (.g rfl (dt c2) (mvV rfl) <| .g rfl (dt c2) (mvV rfl) <| .callI (gT rfl rfl rfl (dt c2)) (callee_of rfl go62 rfl) (.pure rfl rfl (r01_Worth.D (g2_9 c1 c2))) <| .g rfl (dt c2) (quoI rfl rfl (g2_10 c1 c2)) <| .g rfl (dt c2) (remI rfl rfl (by decide)) <| .g rfl (dt c2) (eqI rfl rfl) <| .o (pkTV rfl (dt c2) rfl) <| .a rfl <| .nilL _ ⟨cB rfl (mAndT (dt c1) (mAndT (dt c2) rfl)), trivial⟩)
      · exact (.n rfl (df c2) <| .n rfl (df c2) <| .n rfl (df c2) <| .n rfl (df c2) <| .n rfl (df c2) <| .n rfl (df c2) <| .o (pkFV rfl (df c2) rfl) <| .a rfl <| .nilL _ ⟨cB rfl (mAndT (dt c1) (mAndF (df c2))), trivial⟩)
    · exact (.n rfl (df c1) <| .n rfl (df c1) <| .o (pkFV rfl (df c1) rfl) <| .m rfl <| .n rfl rfl <| .n rfl rfl <| .n rfl rfl <| .n rfl rfl <| .n rfl rfl <| .n rfl rfl <| .o (pkFV rfl rfl rfl) <| .a rfl <| .nilL _ ⟨cB rfl (mAndF (df c1)), trivial⟩)
  replace h := h.symm
  subst h
  refine .kf [(4, bo ((decide (a1 ≥ 0)) && ((decide (a1 < 64)) && ((Int.tmod (IntKind.u64.wrap (Int.tdiv a0 t2_9)) 2) == 1))))] rfl rfl ?_
  exact .ret rfl
def r03_or.f (a0 : Int) (a1 : Int) (r : Int) : Prop :=
  r = (bitOp .or .u64 a0 a1)
theorem r03_or.D {a0 a1 r} (h : r03_or.f a0 a1 r) : D Tryz.prog X (.callH 113 [.val (.int .u64 a0), .val (.int .u64 a1)] [] (.val (.int .u64 r)) []) := by
  unfold r03_or.f at h
  refine .enter 8 0 fn113 rfl rfl rfl <| .seq <| .reg0 rfl (.op 0 rfl (asV rfl) <| .nil0) <| .seq <| .reg0 rfl (.op 0 rfl (mvV rfl) <| .op 0 rfl (mvV rfl) <| .op 0 rfl (orI rfl rfl) <| .op 0 rfl (asV rfl) <| .nil0) ?_
  replace h := h.symm
  subst h
  refine .kf [(4, u6 (bitOp .or .u64 a0 a1))] rfl rfl ?_
  exact .ret rfl
def r03_made.j1 (x4 : Int) : Int → (Rnd ((Int × Int)) Int Int) → Prop := fun x9 z1 => z1 = .next (x9, (IntKind.i64.wrap (x4 + 1)))
def r03_made.b1 (a0 : TFacts) (a1 : Int) : (Int × Int) → Rnd ((Int × Int)) Int Int → Prop := fun (x3, x4) z1 => if x4 < (a0.Rows.length : Int) then (∃ t24_2 : Bool, (r01_Has.f a1 x4 t24_2) ∧ if t24_2 = true then (((InR x4 a0.Rows.length)) ∧ ∃ t27_6 : Int, (r03_or.f x3 (rdl a0.Rows x4) t27_6) ∧ r03_made.j1 x4 t27_6 z1) else (r03_made.j1 x4 x3 z1)) else (z1 = .exit x3)
def r03_made.f (a0 : TFacts) (a1 : Int) (r : Int) : Prop :=
  ∃ o1 : Fin Int Int, Loop (r03_made.b1 a0 a1) (a0.Gen, 0) o1 ∧ o1.on (fun x7 => r = x7) (fun r_ => r = r_)
theorem r03_made.D {a0 a1 r} (h : r03_made.f a0 a1 r) : D Tryz.prog X (.callH 84 [.agg (TFacts.lit a0), .val (.int .u64 a1)] [] (.val (.int .u64 r)) []) := by
  unfold r03_made.f at h
  refine .enter 27 0 fn84 rfl rfl rfl <| .seq <| .room 0 <| .reg0 rfl (.op 0 rfl (bxP (s := 2) (cs := (TFacts.lit a0)) rfl ⟨rfl, by decide, rfl⟩ rfl) <| .op 0 rfl (asV rfl) <| .nil0) <| .seq <| .reg0 rfl (.op 0 rfl (faP fa35_0 rfl) <| .op 0 rfl (ldP rfl sz32 ag32 rfl) <| .op 0 rfl (asV rfl) <| .nil0) <| .seq <| .seq <| .reg0 rfl (.op 0 rfl (asV rfl) <| .nil0) <| .block <| .keepL [0] [(1, u6 a1), (2, .ptr 0 1 2 0 0), (5, u6 a0.Gen), (6, i6 0)] [⟨2, [(TFacts.lit a0)], 0, none⟩] (by decide) (by decide) ⟨.free rfl rfl, .ptr rfl, .free rfl rfl, .free rfl rfl, trivial⟩ ⟨⟨_, rfl, bcBox (all2_free rfl)⟩, trivial⟩ ?_
  obtain ⟨o1, hL1, h⟩ := h
  refine .loopB (r03_made.b1 a0 a1) (fun (x3, x4) => listEnv [(1, u6 a1), (2, .ptr 0 1 2 0 0), (5, u6 x3), (6, i6 x4)]) (fun (x3, x4) => [⟨2, [(TFacts.lit a0)], 0, none⟩]) (fun x7 => listEnv [(5, u6 x7)]) (fun x7 => []) hL1 (fun r_ => r = r_) ?_ ?_ ?_
  · rintro x7 rfl
    try dsimp only [Fin.on] at h
    refine .seq <| .reg0 rfl (.op 0 rfl (mvV rfl) <| .op 0 rfl (asV rfl) <| .nil0) ?_
    replace h := h.symm
    subst h
    refine .kf [(4, u6 x7)] rfl rfl ?_
    exact .ret rfl
  · rintro r_ rfl
    exact h
  · rintro ⟨x3, x4⟩ z1 h hn1 hx1 hr1
    dsimp only [r03_made.b1] at h
    refine .seq <| .seq <| .reg0 rfl (.op 0 rfl (mvV rfl) <| .op 0 rfl (faP fa35_1 rfl) <| .op 0 rfl (ldP rfl sz33 ag33 rfl) <| .op 0 rfl (lnR (l := a0.Rows) sl33 rfl) <| .op 0 rfl (ltI rfl rfl) <| .nil0) ?_
    by_cases c11 : x4 < (a0.Rows.length : Int)
    · rw [if_pos c11] at h
      refine .condT rfl (dt c11) <| .skip <| .seq <| .block <| .seq ?_
      obtain ⟨t24_2, g24_2, h⟩ := h
      refine .reg0 rfl (.m rfl <| .m rfl <| .c rfl go86 rfl rfl rfl (r01_Has.D g24_2) <| .nil0) ?_
      refine .consJ (fun s_ => r03_made.j1 x4 s_ z1) (fun x9 => listEnv [(1, u6 a1), (2, .ptr 0 1 2 0 0), (5, u6 x9), (6, i6 x4)]) (fun x9 => [⟨2, [(TFacts.lit a0)], 0, none⟩]) ?_ fun hJ1 => ?_
      · rintro x9 h
        unfold r03_made.j1 at h
        try dsimp only at h
        refine .inBlock <| .reg0 rfl (.op 0 rfl (mvV rfl) <| .op 0 rfl (addI rfl rfl) <| .op 0 rfl (asV rfl) <| .nil0) <| .keepL [0] [(1, u6 a1), (2, .ptr 0 1 2 0 0), (5, u6 x9), (6, i6 (IntKind.i64.wrap (x4 + 1)))] [⟨2, [(TFacts.lit a0)], 0, none⟩] (by decide) (by decide) ⟨.free rfl rfl, .ptr rfl, .free rfl rfl, .free rfl rfl, trivial⟩ ⟨⟨_, rfl, bcBox (all2_free rfl)⟩, trivial⟩ ?_
        exact hn1 _ h
      · by_cases c15 : t24_2 = true
        · rw [if_pos c15] at h
          refine .condT rfl c15 ?_
          obtain ⟨g27_4, h⟩ := h
          obtain ⟨t27_6, g27_6, h⟩ := h
          refine .reg0 rfl (.m rfl <| .o (faP fa35_1 rfl) <| .o (ldP rfl sz33 ag33 rfl) <| .m rfl <| .o (ixR (l := a0.Rows) (lit := (cInt .u64)) sl33 rfl rfl (fun _ => rfl) g27_4.1 g27_4.2) <| .o (ldC rfl sz32 ag32 rfl) <| .c rfl go113 rfl rfl rfl (r03_or.D g27_6) <| .a rfl <| .nil0) <| .keepL [0] [(1, u6 a1), (2, .ptr 0 1 2 0 0), (5, u6 t27_6), (6, i6 x4)] [⟨2, [(TFacts.lit a0)], 0, none⟩] (by decide) (by decide) ⟨.free rfl rfl, .ptr rfl, .free rfl rfl, .free rfl rfl, trivial⟩ ⟨⟨_, rfl, bcBox (all2_free rfl)⟩, trivial⟩ ?_
          exact hJ1 _ h
        · rw [if_neg c15] at h
          refine .condF rfl (nb c15) <| .skip <| .keepL [0] [(1, u6 a1), (2, .ptr 0 1 2 0 0), (5, u6 x3), (6, i6 x4)] [⟨2, [(TFacts.lit a0)], 0, none⟩] (by decide) (by decide) ⟨.free rfl rfl, .ptr rfl, .free rfl rfl, .free rfl rfl, trivial⟩ ⟨⟨_, rfl, bcBox (all2_free rfl)⟩, trivial⟩ ?_
          exact hJ1 _ h
    · rw [if_neg c11] at h
      refine .condF rfl (df c11) <| .exit rfl <| .keepL [] [(5, u6 x3)] [] (by decide) (by decide) ⟨.free rfl rfl, trivial⟩ trivial ?_
      exact hx1 _ h
end Go.RM.Tryz
