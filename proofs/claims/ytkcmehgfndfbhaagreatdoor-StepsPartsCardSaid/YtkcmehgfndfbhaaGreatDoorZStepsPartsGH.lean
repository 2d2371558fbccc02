/- GH, for the statement StepsParts: what it needs, no more. -/
import Derived.Test.YtkcmehgfndfbhaaGreatDoorZStepsPartsGG
set_option linter.unusedVariables false
set_option maxRecDepth 8000
set_option maxHeartbeats 4000000
namespace Go.RM.Tryz
open Go.RM Go.Proofs
def weight_one.step (self50 : TSpace → TWeight → Prop) (a0 : TSpace) (r : TWeight) : Prop :=
  if a0.Tag = 3 then (∃ t5_2 : TFacts × Int, (facts_One.f a0.Dim t5_2) ∧ r = (TWeight.mk false 0 t5_2.1 [] [])) else (if a0.Tag = 4 then (∃ t8_2 : (List TCell) × Int, (cells_One.f a0.Dim t8_2) ∧ r = (TWeight.mk false 0 (TFacts.mk 0 []) t8_2.1 [])) else (if a0.Tag = 5 then (((InR 0 a0.Parts.length)) ∧ ∃ t11_4 : TWeight, (self50 (rdl a0.Parts 0) t11_4) ∧ ((InR 1 a0.Parts.length)) ∧ ∃ t11_9 : TWeight, (self50 (rdl a0.Parts 1) t11_9) ∧ r = (TWeight.mk false 0 (TFacts.mk 0 []) [] [t11_4, t11_9])) else (r = (TWeight.mk false 0 (TFacts.mk 0 []) [] []))))
abbrev GH_c0 : List PV := [bo false, i6 0, u6 0, nul, nul, nul]
abbrev GH_c1 : List PV := [bo false, i6 0, u6 0, .rows (([] : List Int).map (cInt .u64)), .rows (([] : List TCell).map TCell.cells), .rows (([] : List TWeight).map TWeight.cells)]
abbrev GH_c2 : List PV := [u6 0, i6 0, i6 0]
abbrev GH_c3 : List PV := [u6 0, i6 2, i6 0]
abbrev GH_c4 : List PV := [bo true, i6 0, u6 0, nul, nul, nul]
theorem weight_one.stepD {self50 : TSpace → TWeight → Prop} {a0 : TSpace} (hs50 : ∀ z0_ r_, self50 z0_ r_ → D Tryz.prog X (.callH 50 [.agg (TSpace.lit z0_)] [] (.agg (TWeight.lit r_)) [])) {r : TWeight} (h : weight_one.step self50 a0 r) : D Tryz.prog X (.callH 50 [.agg (TSpace.lit a0)] [] (.agg (TWeight.lit r)) []) := by
  unfold weight_one.step at h
  refine .enter 39 0 fn50 rfl rfl rfl <| .seq <| .room 0 <| .room 0 <| .reg0 rfl (.op 0 rfl (bxP (s := 3) (cs := (TSpace.lit a0)) rfl ⟨rfl, by decide, rfl⟩ rfl) <| .op 1 rfl (alP (s := 6) ze39 ⟨rfl, by decide, rfl⟩ rfl) <| .nil0) <| .seq <| .room 0 <| .reg0 rfl (.op 2 rfl (alP (s := 6) ze39 ⟨rfl, by decide, rfl⟩ rfl) <| .nil0) <| .seq <| .seq <| .reg0 rfl (.op 0 rfl (faP fa25_0 rfl) <| .op 0 rfl (ldP rfl sz22 ag22 rfl) <| .nil0) ?_
  refine .block <| .seq <| .reg0 rfl (.op 0 rfl (eqI rfl rfl) <| .op 0 rfl (asV rfl) <| .nil0) ?_
  by_cases c1 : a0.Tag = 3
  · rw [if_pos c1] at h
    refine .condT rfl (bt c1) ?_
    obtain ⟨t5_2, g5_2, h⟩ := h
    refine .reg0 rfl (.o (faP fa25_1 rfl) <| .o (ldP rfl sz3 ag3 rfl) <| .c rfl go71 rfl rfl rfl (facts_One.D g5_2) <| .o (mvT rfl) <| .o (exT rfl rfl) <| .o (exT rfl rfl) <| .o (faP fa39_2 rfl) <| .o (stB (cs0 := GH_c0) (cs := (TFacts.lit t5_2.1)) (cs1 := [bo false, i6 0, u6 t5_2.1.Gen, .rows (t5_2.1.Rows.map (cInt .u64)), nul, nul]) rfl rfl sz35 rfl ⟨Nat.le_of_ble_eq_true rfl, rfl⟩ rfl) <| .nil0) ?_
    refine .inBlock <| .seq <| .reg0 rfl (.op 0 rfl (ldG rfl sz39 ag39 rfl) <| .op 0 rfl (stB (cs0 := GH_c0) (cs := [bo false, i6 0, u6 t5_2.1.Gen, .rows (t5_2.1.Rows.map (cInt .u64)), nul, nul]) (cs1 := [bo false, i6 0, u6 t5_2.1.Gen, .rows (t5_2.1.Rows.map (cInt .u64)), nul, nul]) rfl rfl sz39 rfl ⟨Nat.le_of_ble_eq_true rfl, rfl⟩ rfl) <| .nil0) ?_
    replace h := h.symm
    subst h
    refine .k [(2, .cptr [bo false, i6 0, u6 t5_2.1.Gen, .rows (t5_2.1.Rows.map (cInt .u64)), .rows (([] : List TCell).map TCell.cells), .rows (([] : List TWeight).map TWeight.cells)] 0)] ⟨cFixP rfl rfl (.cons (.free rfl rfl) <| .cons (.free rfl rfl) <| .cons (.free rfl rfl) <| .cons (.free rfl rfl) <| .cons (.nil) <| .cons (.nil) <| .nil), trivial⟩ ?_
    exact .ret rfl
  · rw [if_neg c1] at h
    refine .condF rfl (bn c1) <| .seq <| .reg0 rfl (.op 0 rfl (eqI rfl rfl) <| .op 0 rfl (asV rfl) <| .nil0) ?_
    by_cases c2 : a0.Tag = 4
    · rw [if_pos c2] at h
      refine .condT rfl (bt c2) ?_
      obtain ⟨t8_2, g8_2, h⟩ := h
      refine .reg0 rfl (.o (faP fa25_1 rfl) <| .o (ldP rfl sz3 ag3 rfl) <| .c rfl go72 rfl rfl rfl (cells_One.D g8_2) <| .o (mvT rfl) <| .o (exT rfl rfl) <| .o (exT rfl rfl) <| .o (faP fa39_3 rfl) <| .o (stB (cs0 := GH_c0) (cs := [.rows (t8_2.1.map TCell.cells)]) (cs1 := [bo false, i6 0, u6 0, nul, .rows (t8_2.1.map TCell.cells), nul]) rfl rfl sz36 rfl ⟨Nat.le_of_ble_eq_true rfl, rfl⟩ rfl) <| .nil0) ?_
      refine .inBlock <| .seq <| .reg0 rfl (.op 0 rfl (ldG rfl sz39 ag39 rfl) <| .op 0 rfl (stB (cs0 := GH_c0) (cs := [bo false, i6 0, u6 0, nul, .rows (t8_2.1.map TCell.cells), nul]) (cs1 := [bo false, i6 0, u6 0, nul, .rows (t8_2.1.map TCell.cells), nul]) rfl rfl sz39 rfl ⟨Nat.le_of_ble_eq_true rfl, rfl⟩ rfl) <| .nil0) ?_
      replace h := h.symm
      subst h
      refine .k [(2, .cptr [bo false, i6 0, u6 0, .rows (([] : List Int).map (cInt .u64)), .rows (t8_2.1.map TCell.cells), .rows (([] : List TWeight).map TWeight.cells)] 0)] ⟨cFixP rfl rfl (.cons (.free rfl rfl) <| .cons (.free rfl rfl) <| .cons (.free rfl rfl) <| .cons (.nil) <| .cons (.free rfl rfl) <| .cons (.nil) <| .nil), trivial⟩ ?_
      exact .ret rfl
    · rw [if_neg c2] at h
      refine .condF rfl (bn c2) <| .seq <| .reg0 rfl (.op 0 rfl (eqI rfl rfl) <| .op 0 rfl (asV rfl) <| .nil0) ?_
      by_cases c3 : a0.Tag = 5
      · rw [if_pos c3] at h
        refine .condT rfl (bt c3) ?_
        obtain ⟨g11_2, h⟩ := h
        obtain ⟨t11_4, g11_4, h⟩ := h
        obtain ⟨g11_7, h⟩ := h
        obtain ⟨t11_9, g11_9, h⟩ := h
        refine .room 0 ?_
        refine .reg1 (e1 := listEnv [(2, .ptr 1 1 6 0 0), (3, .ptr 2 1 6 0 0)]) (H1 := [⟨3, [(TSpace.lit a0)], 0, none⟩, ⟨6, [GH_c0], 0, none⟩, ⟨6, [[bo false, i6 0, u6 0, nul, nul, .own 3 ([t11_4, t11_9].length)]], 0, none⟩, ⟨6, [t11_4, t11_9].map TWeight.cells, 0, none⟩]) rfl ?_ ?_
        · exact .drawM [(11, 37, .ptr 2 1 6 0 5), (10, 36, .own 3 ([t11_4, t11_9].length)), (9, 35, .agg (TWeight.lit t11_9)), (8, 34, .agg (TSpace.lit (rdl a0.Parts 1))), (7, 33, .cptr (TSpace.lit (rdl a0.Parts 1)) 0), (6, 32, .rows (a0.Parts.map TSpace.cells)), (5, 31, .ptr 0 1 3 0 2), (4, 30, .agg (TWeight.lit t11_4)), (3, 29, .agg (TSpace.lit (rdl a0.Parts 0))), (2, 28, .cptr (TSpace.lit (rdl a0.Parts 0)) 0), (1, 27, .rows (a0.Parts.map TSpace.cells)), (0, 26, .ptr 0 1 3 0 2)] [(12, 2, ⟨6, [[bo false, i6 0, u6 0, nul, nul, .own 3 ([t11_4, t11_9].length)]], 0, none⟩), (10, 3, ⟨6, [t11_4, t11_9].map TWeight.cells, 0, none⟩)] [[], [0], [1, 0], [2, 1, 0], [3, 2, 1, 0], [], [5], [6, 5], [7, 6, 5], [8, 7, 6, 5, 4, 3, 2, 1, 0], [4, 3, 2, 1, 0, 9, 8, 7, 6, 5], [0, 1, 2, 3, 4, 5, 6, 7, 8, 9, 10], [11, 0, 1, 2, 3, 4, 5, 6, 7, 8, 9, 10]] (by rfl) (by rfl) (by rfl) (by exact ⟨oP (fun _ => faP fa25_2 rfl) rfl, oP (fun _ => ldP rfl sz23 ag23 rfl) rfl, oP (fun _ => ixR (l := a0.Parts) (lit := TSpace.lit) sl23 rfl rfl TSpace.cells_lit g11_2.1 g11_2.2) rfl, oP (fun _ => ldCG rfl sz25 ag25 rfl) rfl, fun S hS hD hn => .oneI hS hD hn rfl rfl (callee_of rfl go50 rfl) (.pure rfl rfl (hs50 _ _ g11_4)) rfl rfl rfl, oP (fun _ => faP fa25_2 rfl) rfl, oP (fun _ => ldP rfl sz23 ag23 rfl) rfl, oP (fun _ => ixR (l := a0.Parts) (lit := TSpace.lit) sl23 rfl rfl TSpace.cells_lit g11_7.1 g11_7.2) rfl, oP (fun _ => ldCG rfl sz25 ag25 rfl) rfl, fun S hS hD hn => .oneI hS hD hn rfl rfl (callee_of rfl go50 rfl) (.pure rfl rfl (hs50 _ _ g11_9)) rfl rfl rfl, oW 3 (fun _ => bldT (s := 6) (cs := [bo t11_4.Zero, i6 t11_4.Cost, u6 t11_4.Facts.Gen, .rows (t11_4.Facts.Rows.map (cInt .u64)), .rows (t11_4.Cells.map TCell.cells), .rows (t11_4.Parts.map TWeight.cells), bo t11_9.Zero, i6 t11_9.Cost, u6 t11_9.Facts.Gen, .rows (t11_9.Facts.Rows.map (cInt .u64)), .rows (t11_9.Cells.map TCell.cells), .rows (t11_9.Parts.map TWeight.cells)]) (cf := TWeight.cells) [t11_4, t11_9] un37 sz39 ze39 ⟨by decide, rfl, by decide⟩ rfl rfl rfl (by simp only [List.map, TWeight.cells_lit]; rfl) rfl) rfl fun _ => rfl, oP (fun _ => faP fa39_4 rfl) rfl, fun S hS hD hn => .one0 0 rfl rfl (stB (cs0 := GH_c0) (cs := [.own 3 ([t11_4, t11_9].length)]) (cs1 := [bo false, i6 0, u6 0, nul, nul, .own 3 ([t11_4, t11_9].length)]) rfl rfl sz37 rfl ⟨Nat.le_of_ble_eq_true rfl, rfl⟩ rfl) (drawE_other _ _ _ _ rfl) rfl, trivial⟩) _ (by exact ⟨.ptr rfl, .ptr rfl, trivial⟩) (by rfl)
        refine .inBlock <| .seq <| .reg0 rfl (.op 0 rfl (ldG rfl sz39 ag39 rfl) <| .op 0 rfl (stB (cs0 := GH_c0) (cs := [bo false, i6 0, u6 0, nul, nul, .own 3 ([t11_4, t11_9].length)]) (cs1 := [bo false, i6 0, u6 0, nul, nul, .own 3 ([t11_4, t11_9].length)]) rfl rfl sz39 rfl ⟨Nat.le_of_ble_eq_true rfl, rfl⟩ rfl) <| .nil0) ?_
        replace h := h.symm
        subst h
        refine .k [(2, .cptr [bo false, i6 0, u6 0, .rows (([] : List Int).map (cInt .u64)), .rows (([] : List TCell).map TCell.cells), .rows ([t11_4, t11_9].map TWeight.cells)] 0)] ⟨cFixP rfl rfl (.cons (.free rfl rfl) <| .cons (.free rfl rfl) <| .cons (.free rfl rfl) <| .cons (.nil) <| .cons (.nil) <| .cons (cFixO (l := [t11_4, t11_9]) sl37 rfl rfl rfl rfl) <| .nil), trivial⟩ ?_
        exact .ret rfl
      · rw [if_neg c3] at h
        refine .condF rfl (bn c3) <| .skip <| .inBlock <| .seq <| .reg0 rfl (.op 0 rfl (ldG rfl sz39 ag39 rfl) <| .op 0 rfl (stB (cs0 := GH_c0) (cs := GH_c0) (cs1 := GH_c0) rfl rfl sz39 rfl ⟨Nat.le_of_ble_eq_true rfl, rfl⟩ rfl) <| .nil0) ?_
        replace h := h.symm
        subst h
        refine .k [(2, .cptr GH_c1 0)] ⟨cFixP rfl rfl (.cons (.free rfl rfl) <| .cons (.free rfl rfl) <| .cons (.free rfl rfl) <| .cons (.nil) <| .cons (.nil) <| .cons (.nil) <| .nil), trivial⟩ ?_
        exact .ret rfl
def weight_one.fN : Nat → TSpace → TWeight → Prop
  | 0 => fun _ _ => False
  | n + 1 => weight_one.step (weight_one.fN n)
theorem weight_one.ND : ∀ (n : Nat) {a0 : TSpace} {r : TWeight} (h : weight_one.fN n a0 r), D Tryz.prog X (.callH 50 [.agg (TSpace.lit a0)] [] (.agg (TWeight.lit r)) [])
  | 0, _, _, h => h.elim
  | n + 1, _, _, h => weight_one.stepD (fun _ _ h => weight_one.ND n h) h
def weight_one.f (a0 : TSpace) (r : TWeight) : Prop := ∃ n, weight_one.fN n a0 r
theorem weight_one.D {a0 r} (h : weight_one.f a0 r) : D Tryz.prog X (.callH 50 [.agg (TSpace.lit a0)] [] (.agg (TWeight.lit r)) []) := by obtain ⟨n, h⟩ := h; exact weight_one.ND n h
def weight_One.f (a0 : TSpace) (r : TWeight × Int) : Prop :=
  ∃ t2_1 : Int, (weight_Space.f a0 t2_1) ∧ if t2_1 = 0 then (∃ t4_1 : TWeight, (weight_one.f a0 t4_1) ∧ r = (t4_1, 0)) else (r = ((TWeight.mk false 0 (TFacts.mk 0 []) [] []), t2_1))
theorem weight_One.D {a0 r} (h : weight_One.f a0 r) : D Tryz.prog X (.callH 26 [.agg (TSpace.lit a0)] [] (.tuple [.agg (TWeight.lit r.1), .val (.int .i64 r.2)]) []) := by
  unfold weight_One.f at h
  refine .enter 13 0 fn26 rfl rfl rfl <| .seq <| .room 0 <| .room 0 <| .reg0 rfl (.op 0 rfl (bxP (s := 3) (cs := (TSpace.lit a0)) rfl ⟨rfl, by decide, rfl⟩ rfl) <| .op 1 rfl (alP (s := 6) ze39 ⟨rfl, by decide, rfl⟩ rfl) <| .op 0 rfl (asV rfl) <| .nil0) <| .seq <| .seq ?_
  obtain ⟨t2_1, g2_1, h⟩ := h
  refine .reg0 rfl (.o (ldG rfl sz25 ag25 rfl) <| .c rfl go49 rfl rfl rfl (weight_Space.D g2_1) <| .a rfl <| .nil0) <| .seq <| .reg0 rfl (.op 0 rfl (mvV rfl) <| .op 0 rfl (neI rfl rfl) <| .nil0) ?_
  by_cases c1 : t2_1 = 0
  · rw [if_pos c1] at h
    refine .condF rfl (nf c1) <| .skip <| .seq ?_
    obtain ⟨t4_1, g4_1, h⟩ := h
    refine .reg0 rfl (.o (ldG rfl sz25 ag25 rfl) <| .c rfl go50 rfl rfl rfl (weight_one.D g4_1) <| .o (stB (cs0 := GH_c0) (cs := (TWeight.lit t4_1)) (cs1 := (TWeight.lit t4_1)) rfl rfl sz39 rfl ⟨Nat.le_of_ble_eq_true rfl, rfl⟩ rfl) <| .a rfl <| .nil0) ?_
    replace h := h.symm
    subst h
    refine .k [(2, .cptr (TWeight.lit t4_1) 0), (3, i6 0)] ⟨cFixP rfl rfl (.cons (.free rfl rfl) <| .cons (.free rfl rfl) <| .cons (.free rfl rfl) <| .cons (.free rfl rfl) <| .cons (.free rfl rfl) <| .cons (.free rfl rfl) <| .nil), .free rfl rfl, trivial⟩ ?_
    exact .ret rfl
  · rw [if_neg c1] at h
    refine .condT rfl (nt c1) <| .seq <| .reg0 rfl (.op 0 rfl (bldS (cs := GH_c0) ze39 pl39 rfl rfl) <| .op 0 rfl (mvV rfl) <| .op 0 rfl (stB (cs0 := GH_c0) (cs := GH_c0) (cs1 := GH_c0) rfl rfl sz39 rfl ⟨Nat.le_of_ble_eq_true rfl, rfl⟩ rfl) <| .op 0 rfl (asV rfl) <| .nil0) ?_
    replace h := h.symm
    subst h
    refine .k [(2, .cptr GH_c1 0), (3, i6 t2_1)] ⟨cFixP rfl rfl (.cons (.free rfl rfl) <| .cons (.free rfl rfl) <| .cons (.free rfl rfl) <| .cons (.nil) <| .cons (.nil) <| .cons (.nil) <| .nil), .free rfl rfl, trivial⟩ ?_
    exact .ret rfl
def slices_Clone_int.f (a0 : List Int) (r : (List Int)) : Prop :=
  if a0.length = 0 then (∀ (z_ : Option Addr) (k_ : Nat), if z_.isNone = true then (r = []) else (((Fits (0 + 0) 8)) ∧ r = [])) else (((Fits (0 + a0.length) 8)) ∧ r = a0)
theorem slices_Clone_int.D {a0 r} (h : slices_Clone_int.f a0 r) : D Tryz.prog X (.callH 27 [.rows (a0.map (cInt .i64))] [] (.rows (r.map (cInt .i64))) []) := by
  unfold slices_Clone_int.f at h
  by_cases c0_ : a0.length = 0
  · rw [if_pos c0_] at h
    have e0_ := List.eq_nil_of_length_eq_zero c0_
    subst e0_
    refine .nilQ [] [] fun z_ k_ => ?_
    replace h := h z_ k_
    refine .enter 8 0 fn27 rfl rfl rfl <| .seq <| .reg0 rfl (.op 0 rfl (asV rfl) <| .nil0) <| .seq <| .seq <| .reg0 rfl (.op 0 rfl (mvV rfl) <| .op 0 rfl (eqEN un29 rfl rfl) <| .nil0) ?_
    by_cases c1 : z_.isNone = true
    · rw [if_pos c1] at h
      refine .condT rfl c1 <| .seq <| .reg0 rfl (.op 0 rfl (asV rfl) <| .nil0) ?_
      replace h := h.symm
      subst h
      refine .k [(2, .rows (([] : List Int).map (cInt .i64)))] ⟨.nil, trivial⟩ ?_
      exact .ret rfl
    · rw [if_neg c1] at h
      refine .condF rfl (nb c1) <| .skip <| .seq ?_
      obtain ⟨g4_2, h⟩ := h
      refine .room 0 <| .room 0 <| .reg0 rfl (.op 0 rfl (bldL (s := 1) (cs := []) un29 sz3 ze3 ⟨by decide, rfl, by decide⟩ rfl rfl rfl rfl) <| .op 0 rfl (mvV rfl) <| .op 0 rfl (apL (l := []) [] sl29 rfl rfl rfl (Nat.zero_le _) rfl g4_2) <| .op 0 rfl (asO rfl) <| .nil0) ?_
      replace h := h.symm
      subst h
      refine .k [(2, .rows ([].map (cInt .i64)))] ⟨cFixO (l := []) sl29 rfl rfl rfl rfl, trivial⟩ ?_
      exact .ret rfl
  · rw [if_neg c0_] at h
    refine .enter 8 0 fn27 rfl rfl rfl <| .seq <| .reg0 rfl (.op 0 rfl (asV rfl) <| .nil0) <| .seq <| .seq <| .reg0 rfl (.op 0 rfl (mvR rfl) <| .op 0 rfl (eqRN c0_ un29 rfl rfl) <| .nil0) <| .condF rfl rfl <| .skip <| .seq ?_
    obtain ⟨g7_2, h⟩ := h
    refine .room 0 <| .room 0 <| .reg0 rfl (.op 0 rfl (bldL (s := 1) (cs := []) un29 sz3 ze3 ⟨by decide, rfl, by decide⟩ rfl rfl rfl rfl) <| .op 0 rfl (mvR rfl) <| .op 0 rfl (apL (l := []) a0 sl29 rfl rfl rfl (Nat.zero_le _) rfl g7_2) <| .op 0 rfl (asO rfl) <| .nil0) ?_
    replace h := h.symm
    subst h
    refine .k [(2, .rows (a0.map (cInt .i64)))] ⟨cFixO (l := a0) sl29 rfl rfl rfl rfl, trivial⟩ ?_
    exact .ret rfl
def cost_Sum.b1 (a0 : Int) (a1 : List Int) : (Int × Int) → Rnd ((Int × Int)) Int (Int × Int) → Prop := fun (x1, x2) z1 => if x2 < (a1.length : Int) then (((InR x2 a1.length)) ∧ if (rdl a1 x2) = (-1) then (z1 = .ret ((-1), 0)) else (z1 = .next ((if a0 < (IntKind.i64.wrap (x1 + (rdl a1 x2))) then a0 else (IntKind.i64.wrap (x1 + (rdl a1 x2)))), (IntKind.i64.wrap (x2 + 1))))) else (z1 = .exit x1)
def cost_Sum.f (a0 : Int) (a1 : List Int) (r : Int × Int) : Prop :=
  ∃ t2_2 : Int, (cost_checks.f a0 a1 t2_2) ∧ if t2_2 = 0 then (∃ o1 : Fin Int (Int × Int), Loop (cost_Sum.b1 a0 a1) (0, 0) o1 ∧ o1.on (fun x3 => r = (x3, 0)) (fun r_ => r = r_)) else (r = (0, t2_2))
theorem cost_Sum.D {a0 a1 r} (h : cost_Sum.f a0 a1 r) : D Tryz.prog X (.callH 77 [.val (.int .i64 a0), .rows (a1.map (cInt .i64))] [] (.tuple [.val (.int .i64 r.1), .val (.int .i64 r.2)]) []) := by
  unfold cost_Sum.f at h
  refine .enter 31 0 fn77 rfl rfl rfl <| .seq <| .reg0 rfl (.op 0 rfl (asV rfl) <| .op 0 rfl (asV rfl) <| .nil0) <| .seq <| .seq ?_
  obtain ⟨t2_2, g2_2, h⟩ := h
  refine .reg0 rfl (.m rfl <| .o (mvR rfl) <| .c rfl go107 rfl rfl rfl (cost_checks.D g2_2) <| .a rfl <| .nil0) <| .seq <| .reg0 rfl (.op 0 rfl (mvV rfl) <| .op 0 rfl (neI rfl rfl) <| .nil0) ?_
  by_cases c1 : t2_2 = 0
  · rw [if_pos c1] at h
    refine .condF rfl (nf c1) <| .skip <| .seq <| .reg0 rfl (.op 0 rfl (asV rfl) <| .nil0) <| .seq <| .seq <| .reg0 rfl (.op 0 rfl (mvR rfl) <| .op 0 rfl (lnR (l := a1) sl29 rfl) <| .op 0 rfl (mvV rfl) <| .nil0) <| .block <| .keepL [] [(0, i6 a0), (7, i6 0), (16, .rows (a1.map (cInt .i64))), (17, i6 (a1.length : Int)), (18, i6 0)] [] (by decide) (by decide) ⟨.free rfl rfl, .free rfl rfl, .free rfl rfl, .free rfl rfl, .free rfl rfl, trivial⟩ trivial ?_
    obtain ⟨o1, hL1, h⟩ := h
    refine .loopB (cost_Sum.b1 a0 a1) (fun (x1, x2) => listEnv [(0, i6 a0), (7, i6 x1), (16, .rows (a1.map (cInt .i64))), (17, i6 (a1.length : Int)), (18, i6 x2)]) (fun (x1, x2) => []) (fun x3 => listEnv [(7, i6 x3)]) (fun x3 => []) hL1 (fun r_ => r = r_) ?_ ?_ ?_
    · rintro x3 rfl
      try dsimp only [Fin.on] at h
      refine .seq <| .reg0 rfl (.op 0 rfl (mvV rfl) <| .op 0 rfl (asV rfl) <| .op 0 rfl (asV rfl) <| .nil0) ?_
      replace h := h.symm
      subst h
      refine .kf [(4, i6 x3), (5, i6 0)] rfl rfl ?_
      exact .ret rfl
    · rintro r_ rfl
      exact h
    · rintro ⟨x1, x2⟩ z1 h hn1 hx1 hr1
      dsimp only [cost_Sum.b1] at h
      refine .seq <| .reg0 rfl (.op 0 rfl (ltI rfl rfl) <| .nil0) <| .seq ?_
      by_cases c6 : x2 < (a1.length : Int)
      · rw [if_pos c6] at h
        refine .condT rfl (dt c6) <| .skip <| .seq <| .block <| .seq ?_
        obtain ⟨g19_0, h⟩ := h
        refine .reg0 rfl (.o (ixR (l := a1) (lit := (cInt .i64)) sl29 rfl rfl (fun _ => rfl) g19_0.1 g19_0.2) <| .o (ldC rfl sz3 ag3 rfl) <| .a rfl <| .nil0) <| .seq <| .seq <| .reg0 rfl (.op 0 rfl (mvV rfl) <| .op 0 rfl (eqI rfl rfl) <| .nil0) ?_
        by_cases c7 : (rdl a1 x2) = (-1)
        · rw [if_pos c7] at h
          refine .condT rfl (bt c7) <| .seq <| .reg0 rfl (.op 0 rfl (asV rfl) <| .op 0 rfl (asV rfl) <| .nil0) ?_
          have q3 := hr1 _ h
          replace q3 := q3.symm
          subst q3
          refine .kf [(4, i6 (-1)), (5, i6 0)] rfl rfl ?_
          exact .ret rfl
        · rw [if_neg c7] at h
          refine .condF rfl (bn c7) <| .skip <| .reg0 rfl (.op 0 rfl (mvV rfl) <| .op 0 rfl (mvV rfl) <| .op 0 rfl (addI rfl rfl) <| .op 0 rfl (mvV rfl) <| .op 0 rfl (minI rfl rfl) <| .op 0 rfl (asV rfl) <| .nil0) <| .inBlock <| .reg0 rfl (.op 0 rfl (addI rfl rfl) <| .op 0 rfl (mvV rfl) <| .nil0) <| .kf [(0, i6 a0), (7, i6 (if a0 < (IntKind.i64.wrap (x1 + (rdl a1 x2))) then a0 else (IntKind.i64.wrap (x1 + (rdl a1 x2))))), (16, .rows (a1.map (cInt .i64))), (17, i6 (a1.length : Int)), (18, i6 (IntKind.i64.wrap (x2 + 1)))] rfl rfl ?_
          exact hn1 _ h
      · rw [if_neg c6] at h
        refine .condF rfl (df c6) <| .exit rfl <| .keepL [] [(7, i6 x1)] [] (by decide) (by decide) ⟨.free rfl rfl, trivial⟩ trivial ?_
        exact hx1 _ h
  · rw [if_neg c1] at h
    refine .condT rfl (nt c1) <| .seq <| .reg0 rfl (.op 0 rfl (mvV rfl) <| .op 0 rfl (asV rfl) <| .op 0 rfl (asV rfl) <| .nil0) ?_
    replace h := h.symm
    subst h
    refine .kf [(4, i6 0), (5, i6 t2_2)] rfl rfl ?_
    exact .ret rfl
def facts_checked.b1 (a0 : Int) (a1 : List TFacts) : Int → Rnd Int Unit Int → Prop := fun x1 z1 => if x1 < (a1.length : Int) then (((InR x1 a1.length)) ∧ ∃ t17_2 : Int, (facts_Check.f a0 (rdl a1 x1) t17_2) ∧ if t17_2 = 0 then (z1 = .next (IntKind.i64.wrap (x1 + 1))) else (z1 = .ret t17_2)) else (z1 = .exit ())
def facts_checked.f (a0 : Int) (a1 : List TFacts) (r : Int) : Prop :=
  ∃ o1 : Fin Unit Int, Loop (facts_checked.b1 a0 a1) 0 o1 ∧ o1.on (fun _ => r = 0) (fun r_ => r = r_)
theorem facts_checked.D {a0 a1 r} (h : facts_checked.f a0 a1 r) : D Tryz.prog X (.callH 108 [.val (.int .i64 a0), .rows (a1.map TFacts.cells)] [] (.val (.int .i64 r)) []) := by
  unfold facts_checked.f at h
  refine .enter 21 0 fn108 rfl rfl rfl <| .seq <| .reg0 rfl (.op 0 rfl (asV rfl) <| .nil0) <| .seq <| .seq <| .reg0 rfl (.op 0 rfl (mvR rfl) <| .op 0 rfl (lnR (l := a1) sl169 rfl) <| .op 0 rfl (mvV rfl) <| .nil0) <| .block <| .keepL [] [(0, i6 a0), (8, .rows (a1.map TFacts.cells)), (9, i6 (a1.length : Int)), (10, i6 0)] [] (by decide) (by decide) ⟨.free rfl rfl, .free rfl rfl, .free rfl rfl, .free rfl rfl, trivial⟩ trivial ?_
  obtain ⟨o1, hL1, h⟩ := h
  refine .loopB (facts_checked.b1 a0 a1) (fun x1 => listEnv [(0, i6 a0), (8, .rows (a1.map TFacts.cells)), (9, i6 (a1.length : Int)), (10, i6 x1)]) (fun x1 => []) (fun _ => listEnv []) (fun _ => []) hL1 (fun r_ => r = r_) ?_ ?_ ?_
  · rintro ⟨⟩ rfl
    try dsimp only [Fin.on] at h
    refine .seq <| .reg0 rfl (.op 0 rfl (asV rfl) <| .nil0) ?_
    replace h := h.symm
    subst h
    refine .kf [(4, i6 0)] rfl rfl ?_
    exact .ret rfl
  · rintro r_ rfl
    exact h
  · rintro x1 z1 h hn1 hx1 hr1
    dsimp only [facts_checked.b1] at h
    refine .seq <| .reg0 rfl (.op 0 rfl (ltI rfl rfl) <| .nil0) <| .seq ?_
    by_cases c5 : x1 < (a1.length : Int)
    · rw [if_pos c5] at h
      refine .condT rfl (dt c5) <| .skip <| .seq <| .block <| .seq ?_
      obtain ⟨g16_0, h⟩ := h
      refine .room 0 <| .reg0 rfl (.op 0 rfl (ixR (l := a1) (lit := TFacts.lit) sl169 rfl rfl (fun _ => rfl) g16_0.1 g16_0.2) <| .op 0 rfl (ldCG rfl sz35 ag35 rfl) <| .op 0 rfl (alP (s := 2) ze35 ⟨rfl, by decide, rfl⟩ rfl) <| .op 0 rfl (stB (cs0 := [u6 0, nul]) (cs := (TFacts.lit (rdl a1 x1))) (cs1 := (TFacts.lit (rdl a1 x1))) rfl rfl sz35 rfl ⟨Nat.le_of_ble_eq_true rfl, rfl⟩ rfl) <| .nil0) <| .seq ?_
      obtain ⟨t17_2, g17_2, h⟩ := h
      refine .reg0 rfl (.m rfl <| .o (ldG rfl sz35 ag35 rfl) <| .c rfl go105 rfl rfl rfl (facts_Check.D g17_2) <| .a rfl <| .nil0) <| .seq <| .reg0 rfl (.op 0 rfl (mvV rfl) <| .op 0 rfl (neI rfl rfl) <| .nil0) ?_
      by_cases c6 : t17_2 = 0
      · rw [if_pos c6] at h
        refine .condF rfl (nf c6) <| .skip <| .inBlock <| .reg0 rfl (.op 0 rfl (addI rfl rfl) <| .op 0 rfl (mvV rfl) <| .nil0) <| .kf [(0, i6 a0), (8, .rows (a1.map TFacts.cells)), (9, i6 (a1.length : Int)), (10, i6 (IntKind.i64.wrap (x1 + 1)))] rfl rfl ?_
        exact hn1 _ h
      · rw [if_neg c6] at h
        refine .condT rfl (nt c6) <| .seq <| .reg0 rfl (.op 0 rfl (mvV rfl) <| .op 0 rfl (asV rfl) <| .nil0) ?_
        have q3 := hr1 _ h
        replace q3 := q3.symm
        subst q3
        refine .kf [(4, i6 t17_2)] rfl rfl ?_
        exact .ret rfl
    · rw [if_neg c5] at h
      refine .condF rfl (df c5) <| .exit rfl <| .keepL [] [] [] (by decide) (by decide) trivial trivial ?_
      exact hx1 _ h
def facts_makes.f (a0 : TFacts) (a1 : Int) (r : Int) : Prop := MakesOk a0.Gen a0.Rows a1 ∧ r = makesI a0.Gen a0.Rows a1
theorem facts_makes.D {a0 a1 r} (h : facts_makes.f a0 a1 r) : D Tryz.prog X (.callH 109 [.agg (TFacts.lit a0), .val (.int .u64 a1)] [] (.val (.int .u64 r)) []) := .ext (x_makes h)
def facts_Extend.b1 (a0 : Int) (a1 : TFacts) (a2 : TFacts) : ((List Int) × Int) → Rnd (((List Int) × Int)) ((List Int)) (TFacts × Int) → Prop := fun (x1, x2) z1 => if x2 < ((List.replicate (Int.toNat a0) (0 : Int)).length : Int) then (((InR x2 a1.Rows.length)) ∧ ∃ t16_9 : Int, (facts_makes.f a2 (rdl a1.Rows x2) t16_9) ∧ ((InR x2 x1.length)) ∧ z1 = .next ((setl x1 x2 t16_9), (IntKind.i64.wrap (x2 + 1)))) else (z1 = .exit x1)
def facts_Extend.f (a0 : Int) (a1 : TFacts) (a2 : TFacts) (r : TFacts × Int) : Prop :=
  ∃ t2_4 : Int, (facts_checked.f a0 [a1, a2] t2_4) ∧ if t2_4 = 0 then (∃ t4_3 : Int, (facts_makes.f a2 a1.Gen t4_3) ∧ (((0 : Int) ≤ a0 ∧ Fits a0 8)) ∧ ∃ o1 : Fin ((List Int)) (TFacts × Int), Loop (facts_Extend.b1 a0 a1 a2) ((List.replicate (Int.toNat a0) (0 : Int)), 0) o1 ∧ o1.on (fun x3 => ∃ t18_1 : TFacts, (facts_canon.f (TFacts.mk t4_3 x3) t18_1) ∧ r = (t18_1, 0)) (fun r_ => r = r_)) else (r = ((TFacts.mk 0 []), t2_4))
theorem facts_Extend.D {a0 a1 a2 r} (h : facts_Extend.f a0 a1 a2 r) : D Tryz.prog X (.callH 78 [.val (.int .i64 a0), .agg (TFacts.lit a1), .agg (TFacts.lit a2)] [] (.tuple [.agg (TFacts.lit r.1), .val (.int .i64 r.2)]) []) := by
  unfold facts_Extend.f at h
  refine .enter 47 0 fn78 rfl rfl rfl <| .seq <| .room 0 <| .room 0 <| .room 0 <| .reg0 rfl (.op 0 rfl (bxP (s := 2) (cs := (TFacts.lit a1)) rfl ⟨rfl, by decide, rfl⟩ rfl) <| .op 1 rfl (bxP (s := 2) (cs := (TFacts.lit a2)) rfl ⟨rfl, by decide, rfl⟩ rfl) <| .op 2 rfl (alP (s := 2) ze35 ⟨rfl, by decide, rfl⟩ rfl) <| .op 0 rfl (asV rfl) <| .nil0) <| .seq <| .seq ?_
  obtain ⟨t2_4, g2_4, h⟩ := h
  refine .room 0 <| .reg0 rfl (.op 0 rfl (mvV rfl) <| .op 0 rfl (ldG rfl sz35 ag35 rfl) <| .op 0 rfl (ldG rfl sz35 ag35 rfl) <| .op 3 rfl (bldL (s := 2) (cs := [u6 a1.Gen, .rows (a1.Rows.map (cInt .u64)), u6 a2.Gen, .rows (a2.Rows.map (cInt .u64))]) un169 sz35 ze35 ⟨by decide, rfl, by decide⟩ rfl rfl rfl rfl) <| .callI rfl (callee_of rfl go108 rfl) (.lendC (args' := [i6 a0, .rows ([a1, a2].map TFacts.cells)])  [3] false (.cons (.free rfl rfl) <| .cons (cFixO (l := [a1, a2]) sl169 rfl rfl rfl rfl) <| .nil) (by decide) rfl rfl rfl rfl (facts_checked.D g2_4)) <| .op 0 rfl (asV rfl) <| .nil0) ?_
  refine .seq <| .reg0 rfl (.op 0 rfl (mvV rfl) <| .op 0 rfl (neI rfl rfl) <| .nil0) ?_
  by_cases c1 : t2_4 = 0
  · rw [if_pos c1] at h
    refine .condF rfl (nf c1) <| .skip <| .seq ?_
    obtain ⟨t4_3, g4_3, h⟩ := h
    obtain ⟨g4_5, h⟩ := h
    refine .room 0 <| .room 0 ?_
    refine .reg1 (e1 := listEnv [(4, .ptr 0 1 2 0 0), (5, .ptr 1 1 2 0 0), (6, .ptr 2 1 2 0 0), (9, .ptr 5 1 2 0 0)]) (H1 := [⟨2, [(TFacts.lit a1)], 0, none⟩, ⟨2, [(TFacts.lit a2)], 0, none⟩, ⟨2, [[u6 0, nul]], 0, none⟩, ⟨2, [a1, a2].map TFacts.cells, 0, none⟩, ⟨1, (List.replicate (Int.toNat a0) (0 : Int)).map (cInt .u64), 0, none⟩, ⟨2, [[u6 t4_3, .own 4 ((List.replicate (Int.toNat a0) (0 : Int)).length)]], 0, none⟩]) rfl ?_ ?_
    · exact .drawM [(7, 9, .ptr 5 1 2 0 0), (6, 26, .agg [u6 t4_3, .own 4 ((List.replicate (Int.toNat a0) (0 : Int)).length)]), (5, 25, .own 4 ((List.replicate (Int.toNat a0) (0 : Int)).length)), (4, 24, i6 a0), (3, 23, u6 t4_3), (2, 22, u6 a1.Gen), (1, 21, .ptr 0 1 2 0 0), (0, 20, .agg (TFacts.lit a2))] [(8, 5, ⟨2, [[u6 t4_3, .own 4 ((List.replicate (Int.toNat a0) (0 : Int)).length)]], 0, none⟩), (7, 5, ⟨2, [[u6 0, nul]], 0, none⟩), (5, 4, ⟨1, (List.replicate (Int.toNat a0) (0 : Int)).map (cInt .u64), 0, none⟩)] [[], [], [1], [0, 2, 1], [], [4], [3, 0, 2, 1, 5, 4], [], [7, 6, 3, 0, 2, 1, 5, 4]] (by rfl) (by rfl) (by rfl) (by exact ⟨oP (fun _ => ldG rfl sz35 ag35 rfl) rfl, oP (fun _ => faP fa35_0 rfl) rfl, oP (fun _ => ldP rfl sz32 ag32 rfl) rfl, fun S hS hD hn => .oneI hS hD hn rfl rfl (callee_of rfl go109 rfl) (.pure rfl rfl (facts_makes.D g4_3)) rfl rfl rfl, oP (fun _ => mvV rfl) rfl, oW 4 (fun _ => mkS (z0 := (0 : Int)) sl33 un33 ze32 rfl rfl g4_5.1 g4_5.2 rfl) rfl fun _ => rfl, oP (fun _ => bldS (cs := [u6 t4_3, .own 4 ((List.replicate (Int.toNat a0) (0 : Int)).length)]) ze35 pl35 rfl rfl) rfl, oW 5 (fun _ => alP (s := 2) ze35 ⟨rfl, by decide, rfl⟩ rfl) rfl fun _ => rfl, fun S hS hD hn => .one0 0 rfl rfl (stB (cs0 := [u6 0, nul]) (cs := [u6 t4_3, .own 4 ((List.replicate (Int.toNat a0) (0 : Int)).length)]) (cs1 := [u6 t4_3, .own 4 ((List.replicate (Int.toNat a0) (0 : Int)).length)]) rfl rfl sz35 rfl ⟨Nat.le_of_ble_eq_true rfl, rfl⟩ rfl) (drawE_other _ _ _ _ rfl) rfl, trivial⟩) _ (by exact ⟨.ptr rfl, .ptr rfl, .ptr rfl, .ptr rfl, trivial⟩) (by rfl)
    refine .seq <| .seq <| .reg0 rfl (.op 0 rfl (faP fa35_1 rfl) <| .op 0 rfl (ldP rfl sz33 ag33 rfl) <| .op 0 rfl (lnO (l := (List.replicate (Int.toNat a0) (0 : Int))) sl33 rfl rfl rfl) <| .op 0 rfl (mvV rfl) <| .nil0) <| .block <| .keepL [0, 1, 2, 5, 4] [(4, .ptr 0 1 2 0 0), (5, .ptr 1 1 2 0 0), (6, .ptr 2 1 2 0 0), (9, .ptr 3 1 2 0 0), (29, i6 ((List.replicate (Int.toNat a0) (0 : Int)).length : Int)), (30, i6 0)] [⟨2, [(TFacts.lit a1)], 0, none⟩, ⟨2, [(TFacts.lit a2)], 0, none⟩, ⟨2, [[u6 0, nul]], 0, none⟩, ⟨2, [[u6 t4_3, .own 4 ((List.replicate (Int.toNat a0) (0 : Int)).length)]], 0, none⟩, ⟨1, (List.replicate (Int.toNat a0) (0 : Int)).map (cInt .u64), 0, none⟩] (by decide) (by decide) ⟨.ptr rfl, .ptr rfl, .ptr rfl, .ptr rfl, .free rfl rfl, .free rfl rfl, trivial⟩ ⟨⟨_, rfl, bcBox (all2_free rfl)⟩, ⟨_, rfl, bcBox (all2_free rfl)⟩, ⟨_, rfl, bcBox (all2_free rfl)⟩, ⟨_, rfl, bcBox (.cons (.free rfl rfl) <| .cons (.own rfl) <| .nil)⟩, ⟨_, rfl, bcRow (l := (List.replicate (Int.toNat a0) (0 : Int))) sl33 (Nat.le_refl _) rfl⟩, trivial⟩ ?_
    obtain ⟨o1, hL1, h⟩ := h
    refine .loopB (facts_Extend.b1 a0 a1 a2) (fun (x1, x2) => listEnv [(4, .ptr 0 1 2 0 0), (5, .ptr 1 1 2 0 0), (6, .ptr 2 1 2 0 0), (9, .ptr 3 1 2 0 0), (29, i6 ((List.replicate (Int.toNat a0) (0 : Int)).length : Int)), (30, i6 x2)]) (fun (x1, x2) => [⟨2, [(TFacts.lit a1)], 0, none⟩, ⟨2, [(TFacts.lit a2)], 0, none⟩, ⟨2, [[u6 0, nul]], 0, none⟩, ⟨2, [[u6 t4_3, .own 4 x1.length]], 0, none⟩, ⟨1, x1.map (cInt .u64), 0, none⟩]) (fun x3 => listEnv [(6, .ptr 0 1 2 0 0), (9, .ptr 1 1 2 0 0)]) (fun x3 => [⟨2, [[u6 0, nul]], 0, none⟩, ⟨2, [[u6 t4_3, .own 2 x3.length]], 0, none⟩, ⟨1, x3.map (cInt .u64), 0, none⟩]) hL1 (fun r_ => r = r_) ?_ ?_ ?_
    · rintro x3 rfl
      try dsimp only [Fin.on] at h
      refine .seq ?_
      obtain ⟨t18_1, g18_1, h⟩ := h
      refine .reg0 rfl (.o (ldG rfl sz35 ag35 rfl) <| .callI rfl (callee_of rfl go110 rfl) (.lendC (args' := [.agg [u6 t4_3, .rows (x3.map (cInt .u64))]])  [2] true (.cons (cAgg (.cons (.free rfl rfl) <| .cons (cFixO (l := x3) sl33 rfl rfl rfl rfl) <| .nil)) <| .nil) (by decide) rfl rfl rfl rfl (facts_canon.D g18_1)) <| .o (stB (cs0 := [u6 0, nul]) (cs := (TFacts.lit t18_1)) (cs1 := (TFacts.lit t18_1)) rfl rfl sz35 rfl ⟨Nat.le_of_ble_eq_true rfl, rfl⟩ rfl) <| .a rfl <| .nil0) ?_
      replace h := h.symm
      subst h
      refine .k [(6, .cptr (TFacts.lit t18_1) 0), (7, i6 0)] ⟨cFixP rfl rfl (.cons (.free rfl rfl) <| .cons (.free rfl rfl) <| .nil), .free rfl rfl, trivial⟩ ?_
      exact .ret rfl
    · rintro r_ rfl
      exact h
    · rintro ⟨x1, x2⟩ z1 h hn1 hx1 hr1
      dsimp only [facts_Extend.b1] at h
      refine .seq <| .reg0 rfl (.op 0 rfl (ltI rfl rfl) <| .nil0) <| .seq ?_
      by_cases c4 : x2 < ((List.replicate (Int.toNat a0) (0 : Int)).length : Int)
      · rw [if_pos c4] at h
        refine .condT rfl (dt c4) <| .skip <| .seq <| .block <| .seq <| .reg0 rfl (.op 0 rfl (mvV rfl) <| .op 0 rfl (asV rfl) <| .nil0) ?_
        obtain ⟨g16_7, h⟩ := h
        obtain ⟨t16_9, g16_9, h⟩ := h
        obtain ⟨g16_10, h⟩ := h
        refine .reg1 (e1 := listEnv [(4, .ptr 0 1 2 0 0), (5, .ptr 1 1 2 0 0), (6, .ptr 2 1 2 0 0), (9, .ptr 3 1 2 0 0), (29, i6 ((List.replicate (Int.toNat a0) (0 : Int)).length : Int)), (30, i6 x2)]) (H1 := [⟨2, [(TFacts.lit a1)], 0, none⟩, ⟨2, [(TFacts.lit a2)], 0, none⟩, ⟨2, [[u6 0, nul]], 0, none⟩, ⟨2, [[u6 t4_3, .own 4 x1.length]], 0, none⟩, ⟨1, (setl x1 x2 t16_9).map (cInt .u64), 0, none⟩]) rfl ?_ ?_
        · exact .drawM [(10, 43, .ptr 4 x1.length 1 (Int.toNat x2) 0), (9, 42, u6 t16_9), (8, 41, u6 (rdl a1.Rows x2)), (7, 40, .cptr ((cInt .u64) (rdl a1.Rows x2)) 0), (6, 39, i6 x2), (5, 38, .rows (a1.Rows.map (cInt .u64))), (4, 37, .ptr 0 1 2 0 1), (3, 36, .agg (TFacts.lit a2)), (2, 35, i6 x2), (1, 34, .own 4 x1.length), (0, 33, .ptr 3 1 2 0 1)] [(11, 4, ⟨1, (setl x1 x2 t16_9).map (cInt .u64), 0, none⟩)] [[], [0], [], [], [], [4], [], [5, 4, 6], [7, 5, 4, 6], [3, 8, 7, 5, 4, 6], [1, 0, 2, 3, 4, 5, 6, 7, 8, 9], [10, 1, 0, 2, 3, 4, 5, 6, 7, 8, 9]] (by rfl) (by rfl) (by rfl) (by exact ⟨oP (fun _ => faP fa35_1 rfl) rfl, oP (fun _ => ldP rfl sz33 ag33 rfl) rfl, oP (fun _ => mvV rfl) rfl, oP (fun _ => ldG rfl sz35 ag35 rfl) rfl, oP (fun _ => faP fa35_1 rfl) rfl, oP (fun _ => ldP rfl sz33 ag33 rfl) rfl, oP (fun _ => mvV rfl) rfl, oP (fun _ => ixR (l := a1.Rows) (lit := (cInt .u64)) sl33 rfl rfl (fun _ => rfl) g16_7.1 g16_7.2) rfl, oP (fun _ => ldC rfl sz32 ag32 rfl) rfl, fun S hS hD hn => .oneI hS hD hn rfl rfl (callee_of rfl go109 rfl) (.pure rfl rfl (facts_makes.D g16_9)) rfl rfl rfl, oP (fun _ => ixO (l := x1) sl33 rfl rfl rfl rfl g16_10.1 g16_10.2) rfl, fun S hS hD hn => .one0 0 rfl rfl (stO (l := x1) (j := x2) (cs := [u6 t16_9]) t16_9 sl33 rfl rfl sz32 rfl rfl g16_10.1 g16_10.2 (Nat.zero_le _) ⟨Nat.le_of_ble_eq_true rfl, rfl⟩ rfl) (drawE_other _ _ _ _ rfl) rfl, trivial⟩) _ (by exact ⟨.ptr rfl, .ptr rfl, .ptr rfl, .ptr rfl, .free rfl rfl, .free rfl rfl, trivial⟩) (by rfl)
        refine .inBlock <| .reg0 rfl (.op 0 rfl (addI rfl rfl) <| .op 0 rfl (mvV rfl) <| .nil0) <| .keepL [0, 1, 2, 3, 4] [(4, .ptr 0 1 2 0 0), (5, .ptr 1 1 2 0 0), (6, .ptr 2 1 2 0 0), (9, .ptr 3 1 2 0 0), (29, i6 ((List.replicate (Int.toNat a0) (0 : Int)).length : Int)), (30, i6 (IntKind.i64.wrap (x2 + 1)))] [⟨2, [(TFacts.lit a1)], 0, none⟩, ⟨2, [(TFacts.lit a2)], 0, none⟩, ⟨2, [[u6 0, nul]], 0, none⟩, ⟨2, [[u6 t4_3, .own 4 ((setl x1 x2 t16_9).length)]], 0, none⟩, ⟨1, (setl x1 x2 t16_9).map (cInt .u64), 0, none⟩] (by decide) (by decide) ⟨.ptr rfl, .ptr rfl, .ptr rfl, .ptr rfl, .free rfl rfl, .free rfl rfl, trivial⟩ ⟨⟨_, rfl, bcBox (all2_free rfl)⟩, ⟨_, rfl, bcBox (all2_free rfl)⟩, ⟨_, rfl, bcBox (all2_free rfl)⟩, ⟨_, rfl, bcBox (.cons (.free rfl rfl) <| .cons (cOwnE rfl (by simp only [setl, List.length_set])) <| .nil)⟩, ⟨_, rfl, bcRow (l := (setl x1 x2 t16_9)) sl33 (Nat.le_refl _) rfl⟩, trivial⟩ ?_
        exact hn1 _ h
      · rw [if_neg c4] at h
        refine .condF rfl (df c4) <| .exit rfl <| .keepL [2, 3, 4] [(6, .ptr 0 1 2 0 0), (9, .ptr 1 1 2 0 0)] [⟨2, [[u6 0, nul]], 0, none⟩, ⟨2, [[u6 t4_3, .own 2 x1.length]], 0, none⟩, ⟨1, x1.map (cInt .u64), 0, none⟩] (by decide) (by decide) ⟨.ptr rfl, .ptr rfl, trivial⟩ ⟨⟨_, rfl, bcBox (all2_free rfl)⟩, ⟨_, rfl, bcBox (.cons (.free rfl rfl) <| .cons (.own rfl) <| .nil)⟩, ⟨_, rfl, bcRow (l := x1) sl33 (Nat.le_refl _) rfl⟩, trivial⟩ ?_
        exact hx1 _ h
  · rw [if_neg c1] at h
    refine .condT rfl (nt c1) <| .seq <| .reg0 rfl (.op 0 rfl (bldS (cs := [u6 0, nul]) ze35 pl35 rfl rfl) <| .op 0 rfl (mvV rfl) <| .op 0 rfl (stB (cs0 := [u6 0, nul]) (cs := [u6 0, nul]) (cs1 := [u6 0, nul]) rfl rfl sz35 rfl ⟨Nat.le_of_ble_eq_true rfl, rfl⟩ rfl) <| .op 0 rfl (asV rfl) <| .nil0) ?_
    replace h := h.symm
    subst h
    refine .k [(6, .cptr [u6 0, .rows (([] : List Int).map (cInt .u64))] 0), (7, i6 t2_4)] ⟨cFixP rfl rfl (.cons (.free rfl rfl) <| .cons (.nil) <| .nil), .free rfl rfl, trivial⟩ ?_
    exact .ret rfl
def cells_two.f (a0 : Int) (a1 : List TCell) (a2 : List TCell) (r : Int) : Prop :=
  ∃ t2_2 : Int, (cells_Check.f a0 a1 t2_2) ∧ if t2_2 = 0 then (∃ t4_2 : Int, (cells_Check.f a0 a2 t4_2) ∧ r = t4_2) else (r = t2_2)
theorem cells_two.D {a0 a1 a2 r} (h : cells_two.f a0 a1 a2 r) : D Tryz.prog X (.callH 111 [.val (.int .i64 a0), .rows (a1.map TCell.cells), .rows (a2.map TCell.cells)] [] (.val (.int .i64 r)) []) := by
  unfold cells_two.f at h
  refine .enter 17 0 fn111 rfl rfl rfl <| .seq <| .reg0 rfl (.op 0 rfl (asV rfl) <| .nil0) <| .seq <| .seq ?_
  obtain ⟨t2_2, g2_2, h⟩ := h
  refine .reg0 rfl (.m rfl <| .o (mvR rfl) <| .c rfl go106 rfl rfl rfl (cells_Check.D g2_2) <| .a rfl <| .nil0) <| .seq <| .reg0 rfl (.op 0 rfl (mvV rfl) <| .op 0 rfl (neI rfl rfl) <| .nil0) ?_
  by_cases c1 : t2_2 = 0
  · rw [if_pos c1] at h
    refine .condF rfl (nf c1) <| .skip <| .seq ?_
    obtain ⟨t4_2, g4_2, h⟩ := h
    refine .reg0 rfl (.m rfl <| .o (mvR rfl) <| .c rfl go106 rfl rfl rfl (cells_Check.D g4_2) <| .a rfl <| .nil0) ?_
    replace h := h.symm
    subst h
    refine .kf [(6, i6 t4_2)] rfl rfl ?_
    exact .ret rfl
  · rw [if_neg c1] at h
    refine .condT rfl (nt c1) <| .seq <| .reg0 rfl (.op 0 rfl (mvV rfl) <| .op 0 rfl (asV rfl) <| .nil0) ?_
    replace h := h.symm
    subst h
    refine .kf [(6, i6 t2_2)] rfl rfl ?_
    exact .ret rfl
def cells_both.f (a0 : TCell) (a1 : TCell) (r : TCell) : Prop :=
  if a0.Kind = 0 then (if a1.Kind = 2 then (r = (TCell.mk 0 2 0)) else (r = (TCell.mk (bitOp .or .u64 a0.From a1.From) a1.Kind a1.K))) else (if ((!(a1.Kind == 0)) && ((!(a0.Kind == a1.Kind)) || (a0.K != a1.K))) = true then (if (2 : Int) = 2 then (r = (TCell.mk 0 2 0)) else (r = (TCell.mk (bitOp .or .u64 a0.From a1.From) 2 a0.K))) else (if a0.Kind = 2 then (r = (TCell.mk 0 2 0)) else (r = (TCell.mk (bitOp .or .u64 a0.From a1.From) a0.Kind a0.K))))
theorem cells_both.D {a0 a1 r} (h : cells_both.f a0 a1 r) : D Tryz.prog X (.callH 112 [.agg (TCell.lit a0), .agg (TCell.lit a1)] [] (.agg (TCell.lit r)) []) := by
  unfold cells_both.f at h
  refine .enter 48 0 fn112 rfl rfl rfl <| .seq <| .room 0 <| .room 0 <| .room 0 <| .reg0 rfl (.op 0 rfl (bxP (s := 3) (cs := (TCell.lit a0)) rfl ⟨rfl, by decide, rfl⟩ rfl) <| .op 1 rfl (bxP (s := 3) (cs := (TCell.lit a1)) rfl ⟨rfl, by decide, rfl⟩ rfl) <| .op 2 rfl (alP (s := 3) ze81 ⟨rfl, by decide, rfl⟩ rfl) <| .nil0) <| .seq <| .room 0 <| .reg0 rfl (.op 0 rfl (faP fa81_0 rfl) <| .op 0 rfl (ldP rfl sz32 ag32 rfl) <| .op 0 rfl (faP fa81_0 rfl) <| .op 0 rfl (ldP rfl sz32 ag32 rfl) <| .op 0 rfl (orI rfl rfl) <| .op 0 rfl (faP fa81_1 rfl) <| .op 0 rfl (ldP rfl sz79 ag79 rfl) <| .op 0 rfl (faP fa81_2 rfl) <| .op 0 rfl (ldP rfl sz2 ag2 rfl) <| .op 0 rfl (bldS (cs := [u6 (bitOp .or .u64 a0.From a1.From), i6 a0.Kind, i6 a0.K]) ze81 pl81 rfl rfl) <| .op 3 rfl (alP (s := 3) ze81 ⟨rfl, by decide, rfl⟩ rfl) <| .op 0 rfl (stB (cs0 := GH_c2) (cs := [u6 (bitOp .or .u64 a0.From a1.From), i6 a0.Kind, i6 a0.K]) (cs1 := [u6 (bitOp .or .u64 a0.From a1.From), i6 a0.Kind, i6 a0.K]) rfl rfl sz81 rfl ⟨Nat.le_of_ble_eq_true rfl, rfl⟩ rfl) <| .nil0) ?_
  refine .seq <| .seq <| .reg0 rfl (.op 0 rfl (faP fa81_1 rfl) <| .op 0 rfl (ldP rfl sz79 ag79 rfl) <| .op 0 rfl (eqI rfl rfl) <| .nil0) ?_
  by_cases c1 : a0.Kind = 0
  · rw [if_pos c1] at h
    refine .condT rfl (bt c1) ?_
    refine .reg1 (e1 := listEnv [(4, .ptr 2 1 3 0 0), (5, .ptr 3 1 3 0 0)]) (H1 := [⟨3, [(TCell.lit a0)], 0, none⟩, ⟨3, [(TCell.lit a1)], 0, none⟩, ⟨3, [GH_c2], 0, none⟩, ⟨3, [[u6 (bitOp .or .u64 a0.From a1.From), i6 a1.Kind, i6 a1.K]], 0, none⟩]) rfl ?_ ?_
    · exact .drawM [(6, 24, .ptr 3 1 3 0 2), (4, 23, .ptr 3 1 3 0 1), (3, 22, i6 a1.K), (2, 21, .ptr 1 1 3 0 2), (1, 20, i6 a1.Kind), (0, 19, .ptr 1 1 3 0 1)] [(7, 3, ⟨3, [[u6 (bitOp .or .u64 a0.From a1.From), i6 a1.Kind, i6 a1.K]], 0, none⟩), (5, 3, ⟨3, [[u6 (bitOp .or .u64 a0.From a1.From), i6 a1.Kind, i6 a0.K]], 0, none⟩)] [[], [0], [], [2], [0, 1], [4, 0, 1], [0, 1, 2, 3, 4, 5], [6, 0, 1, 2, 3, 4, 5]] (by rfl) (by rfl) (by rfl) (by exact ⟨oP (fun _ => faP fa81_1 rfl) rfl, oP (fun _ => ldP rfl sz79 ag79 rfl) rfl, oP (fun _ => faP fa81_2 rfl) rfl, oP (fun _ => ldP rfl sz2 ag2 rfl) rfl, oP (fun _ => faP fa81_1 rfl) rfl, fun S hS hD hn => .one0 0 rfl rfl (stB (cs0 := [u6 (bitOp .or .u64 a0.From a1.From), i6 a0.Kind, i6 a0.K]) (cs := [i6 a1.Kind]) (cs1 := [u6 (bitOp .or .u64 a0.From a1.From), i6 a1.Kind, i6 a0.K]) rfl rfl sz79 rfl ⟨Nat.le_of_ble_eq_true rfl, rfl⟩ rfl) (drawE_other _ _ _ _ rfl) rfl, oP (fun _ => faP fa81_2 rfl) rfl, fun S hS hD hn => .one0 0 rfl rfl (stB (cs0 := [u6 (bitOp .or .u64 a0.From a1.From), i6 a1.Kind, i6 a0.K]) (cs := [i6 a1.K]) (cs1 := [u6 (bitOp .or .u64 a0.From a1.From), i6 a1.Kind, i6 a1.K]) rfl rfl sz2 rfl ⟨Nat.le_of_ble_eq_true rfl, rfl⟩ rfl) (drawE_other _ _ _ _ rfl) rfl, trivial⟩) _ (by exact ⟨.ptr rfl, .ptr rfl, trivial⟩) (by rfl)
    refine .seq <| .seq <| .reg0 rfl (.op 0 rfl (faP fa81_1 rfl) <| .op 0 rfl (ldP rfl sz79 ag79 rfl) <| .op 0 rfl (eqI rfl rfl) <| .nil0) ?_
    by_cases c2 : a1.Kind = 2
    · rw [if_pos c2] at h
      refine .condT rfl (bt c2) <| .seq <| .reg0 rfl (.op 0 rfl (bldS (cs := GH_c3) ze81 pl81 rfl rfl) <| .op 0 rfl (stB (cs0 := GH_c2) (cs := GH_c3) (cs1 := GH_c3) rfl rfl sz81 rfl ⟨Nat.le_of_ble_eq_true rfl, rfl⟩ rfl) <| .nil0) ?_
      replace h := h.symm
      subst h
      refine .k [(4, .cptr GH_c3 0)] ⟨cFixP rfl rfl (.cons (.free rfl rfl) <| .cons (.free rfl rfl) <| .cons (.free rfl rfl) <| .nil), trivial⟩ ?_
      exact .ret rfl
    · rw [if_neg c2] at h
      refine .condF rfl (bn c2) <| .skip <| .seq <| .reg0 rfl (.op 0 rfl (ldG rfl sz81 ag81 rfl) <| .op 0 rfl (stB (cs0 := GH_c2) (cs := [u6 (bitOp .or .u64 a0.From a1.From), i6 a1.Kind, i6 a1.K]) (cs1 := [u6 (bitOp .or .u64 a0.From a1.From), i6 a1.Kind, i6 a1.K]) rfl rfl sz81 rfl ⟨Nat.le_of_ble_eq_true rfl, rfl⟩ rfl) <| .nil0) ?_
      replace h := h.symm
      subst h
      refine .k [(4, .cptr [u6 (bitOp .or .u64 a0.From a1.From), i6 a1.Kind, i6 a1.K] 0)] ⟨cFixP rfl rfl (.cons (.free rfl rfl) <| .cons (.free rfl rfl) <| .cons (.free rfl rfl) <| .nil), trivial⟩ ?_
      exact .ret rfl
  · rw [if_neg c1] at h
    refine .condF rfl (bn c1) <| .seq ?_
    refine .reg0 (e1 := listEnv [(4, .ptr 2 1 3 0 0), (5, .ptr 3 1 3 0 0), (41, bo ((!(a1.Kind == 0)) && ((!(a0.Kind == a1.Kind)) || (a0.K != a1.K))))]) (H1 := [⟨3, [(TCell.lit a0)], 0, none⟩, ⟨3, [(TCell.lit a1)], 0, none⟩, ⟨3, [GH_c2], 0, none⟩, ⟨3, [[u6 (bitOp .or .u64 a0.From a1.From), i6 a0.Kind, i6 a0.K]], 0, none⟩]) rfl ?_ ?_
    · refine .o (faP fa81_1 rfl) <| .o (ldP rfl sz79 ag79 rfl) <| .o (neI rfl rfl) <| .m rfl <| ?_
      by_cases c3 : a1.Kind = 0
      · exact (.n rfl (nf c3) <| .n rfl (nf c3) <| .n rfl (nf c3) <| .n rfl (nf c3) <| .n rfl (nf c3) <| .n rfl (nf c3) <| .u rfl <| .u rfl <| .u rfl <| .u rfl <| .u rfl <| .n rfl (nf c3) <| .o (pkFV rfl (nf c3) rfl) <| .nilL _ ⟨.ptr rfl, .ptr rfl, cB rfl (mAndF (bnotF (bt c3))), trivial⟩)
      · refine .g rfl (nt c3) (faP fa81_1 rfl) <| .g rfl (nt c3) (ldP rfl sz79 ag79 rfl) <| .g rfl (nt c3) (faP fa81_1 rfl) <| .g rfl (nt c3) (ldP rfl sz79 ag79 rfl) <| .g rfl (nt c3) (neI rfl rfl) <| .g rfl (nt c3) (mvV rfl) <| ?_
        by_cases c4 : a0.Kind = a1.Kind
        · exact (.g rfl (nf c4) (faP fa81_2 rfl) <| .g rfl (nf c4) (ldP rfl sz2 ag2 rfl) <| .g rfl (nf c4) (faP fa81_2 rfl) <| .g rfl (nf c4) (ldP rfl sz2 ag2 rfl) <| .g rfl (nf c4) (neI rfl rfl) <| .g rfl (nt c3) (pkFV rfl (nf c4) rfl) <| .o (pkTV rfl (nt c3) rfl) <| .nilL _ ⟨.ptr rfl, .ptr rfl, cB rfl (mAndT (bnotT (bn c3)) (mOrF (bnotF (bt c4)) rfl)), trivial⟩)
        · exact (.n rfl (nt c4) <| .n rfl (nt c4) <| .n rfl (nt c4) <| .n rfl (nt c4) <| .n rfl (nt c4) <| .g rfl (nt c3) (pkTV rfl (nt c4) rfl) <| .o (pkTV rfl (nt c3) rfl) <| .nilL _ ⟨.ptr rfl, .ptr rfl, cB rfl (mAndT (bnotT (bn c3)) (mOrT (bnotT (bn c4)))), trivial⟩)
    by_cases c5 : ((!(a1.Kind == 0)) && ((!(a0.Kind == a1.Kind)) || (a0.K != a1.K))) = true
    · rw [if_pos c5] at h
      refine .condT rfl c5 <| .reg0 rfl (.o (faP fa81_1 rfl) <| .o (stB (cs0 := [u6 (bitOp .or .u64 a0.From a1.From), i6 a0.Kind, i6 a0.K]) (cs := [i6 2]) (cs1 := [u6 (bitOp .or .u64 a0.From a1.From), i6 2, i6 a0.K]) rfl rfl sz79 rfl ⟨Nat.le_of_ble_eq_true rfl, rfl⟩ rfl) <| .nil0) <| .seq <| .seq <| .reg0 rfl (.op 0 rfl (faP fa81_1 rfl) <| .op 0 rfl (ldP rfl sz79 ag79 rfl) <| .op 0 rfl (eqI rfl rfl) <| .nil0) ?_
      by_cases c6 : (2 : Int) = 2
      · rw [if_pos c6] at h
        refine .condT rfl (bt c6) <| .seq <| .reg0 rfl (.op 0 rfl (bldS (cs := GH_c3) ze81 pl81 rfl rfl) <| .op 0 rfl (stB (cs0 := GH_c2) (cs := GH_c3) (cs1 := GH_c3) rfl rfl sz81 rfl ⟨Nat.le_of_ble_eq_true rfl, rfl⟩ rfl) <| .nil0) ?_
        replace h := h.symm
        subst h
        refine .k [(4, .cptr GH_c3 0)] ⟨cFixP rfl rfl (.cons (.free rfl rfl) <| .cons (.free rfl rfl) <| .cons (.free rfl rfl) <| .nil), trivial⟩ ?_
        exact .ret rfl
      · rw [if_neg c6] at h
        refine .condF rfl (bn c6) <| .skip <| .seq <| .reg0 rfl (.op 0 rfl (ldG rfl sz81 ag81 rfl) <| .op 0 rfl (stB (cs0 := GH_c2) (cs := [u6 (bitOp .or .u64 a0.From a1.From), i6 2, i6 a0.K]) (cs1 := [u6 (bitOp .or .u64 a0.From a1.From), i6 2, i6 a0.K]) rfl rfl sz81 rfl ⟨Nat.le_of_ble_eq_true rfl, rfl⟩ rfl) <| .nil0) ?_
        replace h := h.symm
        subst h
        refine .k [(4, .cptr [u6 (bitOp .or .u64 a0.From a1.From), i6 2, i6 a0.K] 0)] ⟨cFixP rfl rfl (.cons (.free rfl rfl) <| .cons (.free rfl rfl) <| .cons (.free rfl rfl) <| .nil), trivial⟩ ?_
        exact .ret rfl
    · rw [if_neg c5] at h
      refine .condF rfl (nb c5) <| .skip <| .seq <| .seq <| .reg0 rfl (.op 0 rfl (faP fa81_1 rfl) <| .op 0 rfl (ldP rfl sz79 ag79 rfl) <| .op 0 rfl (eqI rfl rfl) <| .nil0) ?_
      by_cases c7 : a0.Kind = 2
      · rw [if_pos c7] at h
        refine .condT rfl (bt c7) <| .seq <| .reg0 rfl (.op 0 rfl (bldS (cs := GH_c3) ze81 pl81 rfl rfl) <| .op 0 rfl (stB (cs0 := GH_c2) (cs := GH_c3) (cs1 := GH_c3) rfl rfl sz81 rfl ⟨Nat.le_of_ble_eq_true rfl, rfl⟩ rfl) <| .nil0) ?_
        replace h := h.symm
        subst h
        refine .k [(4, .cptr GH_c3 0)] ⟨cFixP rfl rfl (.cons (.free rfl rfl) <| .cons (.free rfl rfl) <| .cons (.free rfl rfl) <| .nil), trivial⟩ ?_
        exact .ret rfl
      · rw [if_neg c7] at h
        refine .condF rfl (bn c7) <| .skip <| .seq <| .reg0 rfl (.op 0 rfl (ldG rfl sz81 ag81 rfl) <| .op 0 rfl (stB (cs0 := GH_c2) (cs := [u6 (bitOp .or .u64 a0.From a1.From), i6 a0.Kind, i6 a0.K]) (cs1 := [u6 (bitOp .or .u64 a0.From a1.From), i6 a0.Kind, i6 a0.K]) rfl rfl sz81 rfl ⟨Nat.le_of_ble_eq_true rfl, rfl⟩ rfl) <| .nil0) ?_
        replace h := h.symm
        subst h
        refine .k [(4, .cptr [u6 (bitOp .or .u64 a0.From a1.From), i6 a0.Kind, i6 a0.K] 0)] ⟨cFixP rfl rfl (.cons (.free rfl rfl) <| .cons (.free rfl rfl) <| .cons (.free rfl rfl) <| .nil), trivial⟩ ?_
        exact .ret rfl
def cells_Then.j1 (x52 : Int) : (Int × Int × Int) → (Rnd ((Int × Int × Int × Int)) ((Int × Int × Int)) ((List TCell) × Int)) → Prop := fun (x65, x66, x67) z2 => z2 = .next (x65, x66, x67, (IntKind.i64.wrap (x52 + 1)))
def cells_Then.b2 (a0 : Int) (a1 : List TCell) (a2 : List TCell) (x22 : Int) : (Int × Int × Int × Int) → Rnd ((Int × Int × Int × Int)) ((Int × Int × Int)) ((List TCell) × Int) → Prop := fun (x49, x50, x51, x52) z2 => if x52 < a0 then ((((0 : Int) ≤ x52)) ∧ if (bitOp .and .u64 (shrI .u64 ((rdl a2 x22).From) x52) 1) = 1 then (((InR x52 a1.length)) ∧ ∃ t91_5 : TCell, (cells_both.f (TCell.mk x49 x50 x51) (rdl a1 x52) t91_5) ∧ cells_Then.j1 x52 (t91_5.From, t91_5.Kind, t91_5.K) z2) else (cells_Then.j1 x52 (x49, x50, x51) z2)) else (z2 = .exit (x49, x50, x51))
def cells_Then.b1 (a0 : Int) (a1 : List TCell) (a2 : List TCell) : ((List TCell) × Int) → Rnd (((List TCell) × Int)) ((List TCell)) ((List TCell) × Int) → Prop := fun (x21, x22) z1 => if x22 < (a2.length : Int) then (((InR x22 a2.length)) ∧ ∃ o2 : Fin ((Int × Int × Int)) ((List TCell) × Int), Loop (cells_Then.b2 a0 a1 a2 x22) (0, (rdl a2 x22).Kind, (rdl a2 x22).K, 0) o2 ∧ o2.on (fun (x59, x60, x61) => ((Fits (x21.length + 1) 24)) ∧ z1 = .next ((x21 ++ [(TCell.mk x59 x60 x61)]), (IntKind.i64.wrap (x22 + 1)))) (fun r_ => z1 = .ret r_)) else (z1 = .exit x21)
def cells_Then.f (a0 : Int) (a1 : List TCell) (a2 : List TCell) (r : (List TCell) × Int) : Prop :=
  ∃ t2_3 : Int, (cells_two.f a0 a1 a2 t2_3) ∧ if t2_3 = 0 then (∃ o1 : Fin ((List TCell)) ((List TCell) × Int), Loop (cells_Then.b1 a0 a1 a2) ([], 0) o1 ∧ o1.on (fun x42 => r = (x42, 0)) (fun r_ => r = r_)) else (r = ([], t2_3))
theorem cells_Then.D {a0 a1 a2 r} (h : cells_Then.f a0 a1 a2 r) : D Tryz.prog X (.callH 79 [.val (.int .i64 a0), .rows (a1.map TCell.cells), .rows (a2.map TCell.cells)] [] (.tuple [.rows (r.1.map TCell.cells), .val (.int .i64 r.2)]) []) := by
  unfold cells_Then.f at h
  refine .enter 55 0 fn79 rfl rfl rfl <| .seq <| .reg0 rfl (.op 0 rfl (asV rfl) <| .op 0 rfl (asV rfl) <| .nil0) <| .seq <| .seq ?_
  obtain ⟨t2_3, g2_3, h⟩ := h
  refine .reg0 rfl (.m rfl <| .o (mvR rfl) <| .o (mvR rfl) <| .c rfl go111 rfl rfl rfl (cells_two.D g2_3) <| .a rfl <| .nil0) <| .seq <| .reg0 rfl (.op 0 rfl (mvV rfl) <| .op 0 rfl (neI rfl rfl) <| .nil0) ?_
  by_cases c1 : t2_3 = 0
  · rw [if_pos c1] at h
    refine .condF rfl (nf c1) <| .skip <| .seq <| .reg0 rfl (.op 0 rfl (asV rfl) <| .nil0) <| .seq <| .seq <| .reg0 rfl (.op 0 rfl (mvR rfl) <| .op 0 rfl (lnR (l := a2) sl36 rfl) <| .op 0 rfl (mvV rfl) <| .nil0) <| .block <| .room 3 <| .keepL [0] [(0, i6 a0), (1, .rows (a1.map TCell.cells)), (9, .own 0 0), (21, .rows (a2.map TCell.cells)), (22, i6 (a2.length : Int)), (23, i6 0)] [⟨3, [].map TCell.cells, 0, none⟩] (by decide) (by decide) ⟨.free rfl rfl, .free rfl rfl, .nilOwn, .free rfl rfl, .free rfl rfl, .free rfl rfl, trivial⟩ ⟨⟨_, rfl, (bcRow (l := []) sl36 (Nat.le_refl _) rfl)⟩, trivial⟩ ?_
    obtain ⟨o1, hL1, h⟩ := h
    refine .loopB (cells_Then.b1 a0 a1 a2) (fun (x21, x22) => listEnv [(0, i6 a0), (1, .rows (a1.map TCell.cells)), (9, .own 0 x21.length), (21, .rows (a2.map TCell.cells)), (22, i6 (a2.length : Int)), (23, i6 x22)]) (fun (x21, x22) => [⟨3, x21.map TCell.cells, 0, none⟩]) (fun x42 => listEnv [(9, .own 0 x42.length)]) (fun x42 => [⟨3, x42.map TCell.cells, 0, none⟩]) hL1 (fun r_ => r = r_) ?_ ?_ ?_
    · rintro x42 rfl
      try dsimp only [Fin.on] at h
      refine .seq <| .reg0 rfl (.op 0 rfl (mvO rfl) <| .op 0 rfl (asO rfl) <| .op 0 rfl (asV rfl) <| .nil0) ?_
      replace h := h.symm
      subst h
      refine .k [(6, .rows (x42.map TCell.cells)), (7, i6 0)] ⟨cFixO (l := x42) sl36 rfl rfl rfl rfl, .free rfl rfl, trivial⟩ ?_
      exact .ret rfl
    · rintro r_ rfl
      exact h
    · rintro ⟨x21, x22⟩ z1 h hn1 hx1 hr1
      dsimp only [cells_Then.b1] at h
      refine .seq <| .reg0 rfl (.op 0 rfl (ltI rfl rfl) <| .nil0) <| .seq ?_
      by_cases c24 : x22 < (a2.length : Int)
      · rw [if_pos c24] at h
        refine .condT rfl (dt c24) <| .skip <| .seq <| .block <| .seq ?_
        obtain ⟨g59_0, h⟩ := h
        refine .room 0 <| .reg0 rfl (.op 0 rfl (ixR (l := a2) (lit := TCell.lit) sl36 rfl rfl (fun _ => rfl) g59_0.1 g59_0.2) <| .op 0 rfl (ldCG rfl sz81 ag81 rfl) <| .op 1 rfl (alP (s := 3) ze81 ⟨rfl, by decide, rfl⟩ rfl) <| .op 0 rfl (stB (cs0 := GH_c2) (cs := (TCell.lit (rdl a2 x22))) (cs1 := (TCell.lit (rdl a2 x22))) rfl rfl sz81 rfl ⟨Nat.le_of_ble_eq_true rfl, rfl⟩ rfl) <| .nil0) <| .seq <| .room 0 <| .reg0 rfl (.op 0 rfl (faP fa81_1 rfl) <| .op 0 rfl (ldP rfl sz79 ag79 rfl) <| .op 0 rfl (faP fa81_2 rfl) <| .op 0 rfl (ldP rfl sz2 ag2 rfl) <| .op 0 rfl (bldS (cs := [u6 0, i6 ((rdl a2 x22).Kind), i6 ((rdl a2 x22).K)]) ze81 pl81 rfl rfl) <| .op 2 rfl (alP (s := 3) ze81 ⟨rfl, by decide, rfl⟩ rfl) <| .op 0 rfl (stB (cs0 := GH_c2) (cs := [u6 0, i6 ((rdl a2 x22).Kind), i6 ((rdl a2 x22).K)]) (cs1 := [u6 0, i6 ((rdl a2 x22).Kind), i6 ((rdl a2 x22).K)]) rfl rfl sz81 rfl ⟨Nat.le_of_ble_eq_true rfl, rfl⟩ rfl) <| .nil0) ?_
        refine .seq <| .seq <| .reg0 rfl (.op 0 rfl (mvV rfl) <| .op 0 rfl (mvV rfl) <| .nil0) <| .block <| .keepL [0, 1, 2] [(0, i6 a0), (1, .rows (a1.map TCell.cells)), (9, .own 0 x21.length), (11, .ptr 1 1 3 0 0), (12, .ptr 2 1 3 0 0), (21, .rows (a2.map TCell.cells)), (22, i6 (a2.length : Int)), (23, i6 x22), (32, i6 a0), (33, i6 0)] [⟨3, x21.map TCell.cells, 0, none⟩, ⟨3, [(TCell.lit (rdl a2 x22))], 0, none⟩, ⟨3, [[u6 0, i6 ((rdl a2 x22).Kind), i6 ((rdl a2 x22).K)]], 0, none⟩] (by decide) (by decide) ⟨.free rfl rfl, .free rfl rfl, .own rfl, .ptr rfl, .ptr rfl, .free rfl rfl, .free rfl rfl, .free rfl rfl, .free rfl rfl, .free rfl rfl, trivial⟩ ⟨⟨_, rfl, bcRow (l := x21) sl36 (Nat.le_refl _) rfl⟩, ⟨_, rfl, bcBox (all2_free rfl)⟩, ⟨_, rfl, bcBox (all2_free rfl)⟩, trivial⟩ ?_
        obtain ⟨o2, hL2, h⟩ := h
        refine .loopB (cells_Then.b2 a0 a1 a2 x22) (fun (x49, x50, x51, x52) => listEnv [(0, i6 a0), (1, .rows (a1.map TCell.cells)), (9, .own 0 x21.length), (11, .ptr 1 1 3 0 0), (12, .ptr 2 1 3 0 0), (21, .rows (a2.map TCell.cells)), (22, i6 (a2.length : Int)), (23, i6 x22), (32, i6 a0), (33, i6 x52)]) (fun (x49, x50, x51, x52) => [⟨3, x21.map TCell.cells, 0, none⟩, ⟨3, [(TCell.lit (rdl a2 x22))], 0, none⟩, ⟨3, [[u6 x49, i6 x50, i6 x51]], 0, none⟩]) (fun (x59, x60, x61) => listEnv [(0, i6 a0), (1, .rows (a1.map TCell.cells)), (9, .own 0 x21.length), (12, .ptr 1 1 3 0 0), (21, .rows (a2.map TCell.cells)), (22, i6 (a2.length : Int)), (23, i6 x22)]) (fun (x59, x60, x61) => [⟨3, x21.map TCell.cells, 0, none⟩, ⟨3, [[u6 x59, i6 x60, i6 x61]], 0, none⟩]) hL2 (fun r_ => z1 = .ret r_) ?_ ?_ ?_
        · rintro ⟨x59, x60, x61⟩ rfl
          try dsimp only [Fin.on] at h
          obtain ⟨g92_3, h⟩ := h
          refine .room 0 <| .room 0 <| .reg0 rfl (.op 0 rfl (mvO rfl) <| .op 0 rfl (ldG rfl sz81 ag81 rfl) <| .op 2 rfl (bldL (s := 3) (cs := [u6 x59, i6 x60, i6 x61]) un36 sz81 ze81 ⟨by decide, rfl, by decide⟩ rfl rfl rfl rfl) <| .op 0 rfl (ap1 (l := x21) (TCell.mk x59 x60 x61) sl36 rfl rfl rfl (Nat.zero_le _) (elems_own (l := [(TCell.mk x59 x60 x61)]) rfl rfl) g92_3) <| .op 0 rfl (asO rfl) <| .nil0) ?_
          refine .inBlock <| .reg0 rfl (.op 0 rfl (addI rfl rfl) <| .op 0 rfl (mvV rfl) <| .nil0) <| .keepL [0] [(0, i6 a0), (1, .rows (a1.map TCell.cells)), (9, .own 0 ((x21 ++ [(TCell.mk x59 x60 x61)]).length)), (21, .rows (a2.map TCell.cells)), (22, i6 (a2.length : Int)), (23, i6 (IntKind.i64.wrap (x22 + 1)))] [⟨3, (x21 ++ [(TCell.mk x59 x60 x61)]).map TCell.cells, 0, none⟩] (by decide) (by decide) ⟨.free rfl rfl, .free rfl rfl, .own rfl, .free rfl rfl, .free rfl rfl, .free rfl rfl, trivial⟩ ⟨⟨_, rfl, bcRow (l := (x21 ++ [(TCell.mk x59 x60 x61)])) sl36 (Nat.le_refl _) rfl⟩, trivial⟩ ?_
          exact hn1 _ h
        · rintro r_ rfl
          exact h
        · rintro ⟨x49, x50, x51, x52⟩ z2 h hn2 hx2 hr2
          dsimp only [cells_Then.b2] at h
          refine .seq <| .reg0 rfl (.op 0 rfl (ltI rfl rfl) <| .nil0) <| .seq ?_
          by_cases c35 : x52 < a0
          · rw [if_pos c35] at h
            refine .condT rfl (dt c35) <| .skip <| .seq <| .block <| .seq <| .reg0 rfl (.op 0 rfl (mvV rfl) <| .op 0 rfl (asV rfl) <| .nil0) <| .seq ?_
            obtain ⟨g88_3, h⟩ := h
            refine .reg0 rfl (.o (faP fa81_0 rfl) <| .o (ldP rfl sz32 ag32 rfl) <| .m rfl <| .o (shr_ rfl rfl g88_3) <| .o (andI rfl rfl) <| .o (eqI rfl rfl) <| .nil0) ?_
            refine .consJ (fun s_ => cells_Then.j1 x52 s_ z2) (fun (x65, x66, x67) => listEnv [(0, i6 a0), (1, .rows (a1.map TCell.cells)), (9, .own 0 x21.length), (11, .ptr 1 1 3 0 0), (12, .ptr 2 1 3 0 0), (21, .rows (a2.map TCell.cells)), (22, i6 (a2.length : Int)), (23, i6 x22), (32, i6 a0), (33, i6 x52)]) (fun (x65, x66, x67) => [⟨3, x21.map TCell.cells, 0, none⟩, ⟨3, [(TCell.lit (rdl a2 x22))], 0, none⟩, ⟨3, [[u6 x65, i6 x66, i6 x67]], 0, none⟩]) ?_ fun hJ1 => ?_
            · rintro ⟨x65, x66, x67⟩ h
              unfold cells_Then.j1 at h
              try dsimp only at h
              refine .inBlock <| .reg0 rfl (.op 0 rfl (addI rfl rfl) <| .op 0 rfl (mvV rfl) <| .nil0) <| .keepL [0, 1, 2] [(0, i6 a0), (1, .rows (a1.map TCell.cells)), (9, .own 0 x21.length), (11, .ptr 1 1 3 0 0), (12, .ptr 2 1 3 0 0), (21, .rows (a2.map TCell.cells)), (22, i6 (a2.length : Int)), (23, i6 x22), (32, i6 a0), (33, i6 (IntKind.i64.wrap (x52 + 1)))] [⟨3, x21.map TCell.cells, 0, none⟩, ⟨3, [(TCell.lit (rdl a2 x22))], 0, none⟩, ⟨3, [[u6 x65, i6 x66, i6 x67]], 0, none⟩] (by decide) (by decide) ⟨.free rfl rfl, .free rfl rfl, .own rfl, .ptr rfl, .ptr rfl, .free rfl rfl, .free rfl rfl, .free rfl rfl, .free rfl rfl, .free rfl rfl, trivial⟩ ⟨⟨_, rfl, bcRow (l := x21) sl36 (Nat.le_refl _) rfl⟩, ⟨_, rfl, bcBox (all2_free rfl)⟩, ⟨_, rfl, bcBox (all2_free rfl)⟩, trivial⟩ ?_
              exact hn2 _ h
            · by_cases c39 : (bitOp .and .u64 (shrI .u64 ((rdl a2 x22).From) x52) 1) = 1
              · rw [if_pos c39] at h
                refine .condT rfl (bt c39) ?_
                obtain ⟨g91_3, h⟩ := h
                obtain ⟨t91_5, g91_5, h⟩ := h
                refine .reg1 (e1 := listEnv [(0, i6 a0), (1, .rows (a1.map TCell.cells)), (9, .own 0 x21.length), (11, .ptr 1 1 3 0 0), (12, .ptr 2 1 3 0 0), (21, .rows (a2.map TCell.cells)), (22, i6 (a2.length : Int)), (23, i6 x22), (32, i6 a0), (33, i6 x52)]) (H1 := [⟨3, x21.map TCell.cells, 0, none⟩, ⟨3, [(TCell.lit (rdl a2 x22))], 0, none⟩, ⟨3, [(TCell.lit t91_5)], 0, none⟩]) rfl ?_ ?_
                · exact .drawM [(5, 47, .agg (TCell.lit t91_5)), (4, 46, .agg (TCell.lit (rdl a1 x52))), (3, 45, .cptr (TCell.lit (rdl a1 x52)) 0), (2, 44, i6 x52), (1, 43, .rows (a1.map TCell.cells)), (0, 42, .agg [u6 x49, i6 x50, i6 x51])] [(6, 2, ⟨3, [(TCell.lit t91_5)], 0, none⟩)] [[], [], [], [1, 2], [3, 1, 2], [0, 4, 3, 1, 2], [5, 0, 4, 3, 1, 2]] (by rfl) (by rfl) (by rfl) (by exact ⟨oP (fun _ => ldG rfl sz81 ag81 rfl) rfl, oP (fun _ => mvR rfl) rfl, oP (fun _ => mvV rfl) rfl, oP (fun _ => ixR (l := a1) (lit := TCell.lit) sl36 rfl rfl (fun _ => rfl) g91_3.1 g91_3.2) rfl, oP (fun _ => ldCG rfl sz81 ag81 rfl) rfl, fun S hS hD hn => .oneI hS hD hn rfl rfl (callee_of rfl go112 rfl) (.pure rfl rfl (cells_both.D g91_5)) rfl rfl rfl, fun S hS hD hn => .one0 0 rfl rfl (stB (cs0 := [u6 x49, i6 x50, i6 x51]) (cs := (TCell.lit t91_5)) (cs1 := (TCell.lit t91_5)) rfl rfl sz81 rfl ⟨Nat.le_of_ble_eq_true rfl, rfl⟩ rfl) (drawE_other _ _ _ _ rfl) rfl, trivial⟩) _ (by exact ⟨.free rfl rfl, .free rfl rfl, .own rfl, .ptr rfl, .ptr rfl, .free rfl rfl, .free rfl rfl, .free rfl rfl, .free rfl rfl, .free rfl rfl, trivial⟩) (by rfl)
                refine .keepL [0, 1, 2] [(0, i6 a0), (1, .rows (a1.map TCell.cells)), (9, .own 0 x21.length), (11, .ptr 1 1 3 0 0), (12, .ptr 2 1 3 0 0), (21, .rows (a2.map TCell.cells)), (22, i6 (a2.length : Int)), (23, i6 x22), (32, i6 a0), (33, i6 x52)] [⟨3, x21.map TCell.cells, 0, none⟩, ⟨3, [(TCell.lit (rdl a2 x22))], 0, none⟩, ⟨3, [(TCell.lit t91_5)], 0, none⟩] (by decide) (by decide) ⟨.free rfl rfl, .free rfl rfl, .own rfl, .ptr rfl, .ptr rfl, .free rfl rfl, .free rfl rfl, .free rfl rfl, .free rfl rfl, .free rfl rfl, trivial⟩ ⟨⟨_, rfl, bcRow (l := x21) sl36 (Nat.le_refl _) rfl⟩, ⟨_, rfl, bcBox (all2_free rfl)⟩, ⟨_, rfl, bcBox (all2_free rfl)⟩, trivial⟩ ?_
                exact hJ1 _ h
              · rw [if_neg c39] at h
                refine .condF rfl (bn c39) <| .skip <| .keepL [0, 1, 2] [(0, i6 a0), (1, .rows (a1.map TCell.cells)), (9, .own 0 x21.length), (11, .ptr 1 1 3 0 0), (12, .ptr 2 1 3 0 0), (21, .rows (a2.map TCell.cells)), (22, i6 (a2.length : Int)), (23, i6 x22), (32, i6 a0), (33, i6 x52)] [⟨3, x21.map TCell.cells, 0, none⟩, ⟨3, [(TCell.lit (rdl a2 x22))], 0, none⟩, ⟨3, [[u6 x49, i6 x50, i6 x51]], 0, none⟩] (by decide) (by decide) ⟨.free rfl rfl, .free rfl rfl, .own rfl, .ptr rfl, .ptr rfl, .free rfl rfl, .free rfl rfl, .free rfl rfl, .free rfl rfl, .free rfl rfl, trivial⟩ ⟨⟨_, rfl, bcRow (l := x21) sl36 (Nat.le_refl _) rfl⟩, ⟨_, rfl, bcBox (all2_free rfl)⟩, ⟨_, rfl, bcBox (all2_free rfl)⟩, trivial⟩ ?_
                exact hJ1 _ h
          · rw [if_neg c35] at h
            refine .condF rfl (df c35) <| .exit rfl <| .keepL [0, 2] [(0, i6 a0), (1, .rows (a1.map TCell.cells)), (9, .own 0 x21.length), (12, .ptr 1 1 3 0 0), (21, .rows (a2.map TCell.cells)), (22, i6 (a2.length : Int)), (23, i6 x22)] [⟨3, x21.map TCell.cells, 0, none⟩, ⟨3, [[u6 x49, i6 x50, i6 x51]], 0, none⟩] (by decide) (by decide) ⟨.free rfl rfl, .free rfl rfl, .own rfl, .ptr rfl, .free rfl rfl, .free rfl rfl, .free rfl rfl, trivial⟩ ⟨⟨_, rfl, bcRow (l := x21) sl36 (Nat.le_refl _) rfl⟩, ⟨_, rfl, bcBox (all2_free rfl)⟩, trivial⟩ ?_
            exact hx2 _ h
      · rw [if_neg c24] at h
        refine .condF rfl (df c24) <| .exit rfl <| .keepL [0] [(9, .own 0 x21.length)] [⟨3, x21.map TCell.cells, 0, none⟩] (by decide) (by decide) ⟨.own rfl, trivial⟩ ⟨⟨_, rfl, bcRow (l := x21) sl36 (Nat.le_refl _) rfl⟩, trivial⟩ ?_
        exact hx1 _ h
  · rw [if_neg c1] at h
    refine .condT rfl (nt c1) <| .seq <| .reg0 rfl (.op 0 rfl (mvV rfl) <| .op 0 rfl (asV rfl) <| .op 0 rfl (asV rfl) <| .nil0) ?_
    replace h := h.symm
    subst h
    refine .k [(6, .rows (([] : List TCell).map TCell.cells)), (7, i6 t2_3)] ⟨.nil, .free rfl rfl, trivial⟩ ?_
    exact .ret rfl
def weight_then.step (self53 : TSpace → TWeight → TWeight → TWeight → Prop) (a0 : TSpace) (a1 : TWeight) (a2 : TWeight) (r : TWeight) : Prop :=
  if (a1.Zero || a2.Zero) = true then (r = (TWeight.mk true 0 (TFacts.mk 0 []) [] [])) else (if a0.Tag = 2 then (∃ t7_7 : Int × Int, (cost_Sum.f a0.Dim [a1.Cost, a2.Cost] t7_7) ∧ r = (TWeight.mk false t7_7.1 (TFacts.mk 0 []) [] [])) else (if a0.Tag = 3 then (∃ t10_6 : TFacts × Int, (facts_Extend.f a0.Dim a1.Facts a2.Facts t10_6) ∧ r = (TWeight.mk false 0 t10_6.1 [] [])) else (if a0.Tag = 4 then (∃ t13_6 : (List TCell) × Int, (cells_Then.f a0.Dim a1.Cells a2.Cells t13_6) ∧ r = (TWeight.mk false 0 (TFacts.mk 0 []) t13_6.1 [])) else (if a0.Tag = 5 then (((InR 0 a0.Parts.length)) ∧ ((InR 0 a1.Parts.length)) ∧ ((InR 0 a2.Parts.length)) ∧ ∃ t16_12 : TWeight, (self53 (rdl a0.Parts 0) (rdl a1.Parts 0) (rdl a2.Parts 0) t16_12) ∧ ((InR 1 a0.Parts.length)) ∧ ((InR 1 a1.Parts.length)) ∧ ((InR 1 a2.Parts.length)) ∧ ∃ t16_25 : TWeight, (self53 (rdl a0.Parts 1) (rdl a1.Parts 1) (rdl a2.Parts 1) t16_25) ∧ r = (TWeight.mk false 0 (TFacts.mk 0 []) [] [t16_12, t16_25])) else (r = (TWeight.mk false 0 (TFacts.mk 0 []) [] []))))))
theorem weight_then.stepD {self53 : TSpace → TWeight → TWeight → TWeight → Prop} {a0 : TSpace} {a1 : TWeight} {a2 : TWeight} (hs53 : ∀ z0_ z1_ z2_ r_, self53 z0_ z1_ z2_ r_ → D Tryz.prog X (.callH 53 [.agg (TSpace.lit z0_), .agg (TWeight.lit z1_), .agg (TWeight.lit z2_)] [] (.agg (TWeight.lit r_)) [])) {r : TWeight} (h : weight_then.step self53 a0 a1 a2 r) : D Tryz.prog X (.callH 53 [.agg (TSpace.lit a0), .agg (TWeight.lit a1), .agg (TWeight.lit a2)] [] (.agg (TWeight.lit r)) []) := by
  unfold weight_then.step at h
  refine .enter 88 0 fn53 rfl rfl rfl <| .seq <| .room 0 <| .room 0 <| .room 0 <| .room 0 <| .reg0 rfl (.op 0 rfl (bxP (s := 3) (cs := (TSpace.lit a0)) rfl ⟨rfl, by decide, rfl⟩ rfl) <| .op 1 rfl (bxP (s := 6) (cs := (TWeight.lit a1)) rfl ⟨rfl, by decide, rfl⟩ rfl) <| .op 2 rfl (bxP (s := 6) (cs := (TWeight.lit a2)) rfl ⟨rfl, by decide, rfl⟩ rfl) <| .op 3 rfl (alP (s := 6) ze39 ⟨rfl, by decide, rfl⟩ rfl) <| .nil0) ?_
  refine .seq <| .seq ?_
  refine .reg0 (e1 := listEnv [(3, .ptr 0 1 3 0 0), (4, .ptr 1 1 6 0 0), (5, .ptr 2 1 6 0 0), (6, .ptr 3 1 6 0 0), (13, bo (a1.Zero || a2.Zero))]) (H1 := [⟨3, [(TSpace.lit a0)], 0, none⟩, ⟨6, [(TWeight.lit a1)], 0, none⟩, ⟨6, [(TWeight.lit a2)], 0, none⟩, ⟨6, [GH_c0], 0, none⟩]) rfl ?_ ?_
  · refine .o (faP fa39_0 rfl) <| .o (ldP rfl sz4 ag4 rfl) <| .m rfl <| ?_
    by_cases c1 : a1.Zero = true
    · exact (.n rfl c1 <| .n rfl c1 <| .o (pkTV rfl c1 rfl) <| .nilL _ ⟨.ptr rfl, .ptr rfl, .ptr rfl, .ptr rfl, cB rfl (mOrT c1), trivial⟩)
    · exact (.g rfl (nb c1) (faP fa39_0 rfl) <| .g rfl (nb c1) (ldP rfl sz4 ag4 rfl) <| .o (pkFV rfl (nb c1) rfl) <| .nilL _ ⟨.ptr rfl, .ptr rfl, .ptr rfl, .ptr rfl, cB rfl (mOrF (nb c1) rfl), trivial⟩)
  by_cases c2 : (a1.Zero || a2.Zero) = true
  · rw [if_pos c2] at h
    refine .condT rfl c2 <| .seq <| .reg0 rfl (.op 0 rfl (bldS (cs := GH_c4) ze39 pl39 rfl rfl) <| .op 0 rfl (stB (cs0 := GH_c0) (cs := GH_c4) (cs1 := GH_c4) rfl rfl sz39 rfl ⟨Nat.le_of_ble_eq_true rfl, rfl⟩ rfl) <| .nil0) ?_
    replace h := h.symm
    subst h
    refine .k [(6, .cptr [bo true, i6 0, u6 0, .rows (([] : List Int).map (cInt .u64)), .rows (([] : List TCell).map TCell.cells), .rows (([] : List TWeight).map TWeight.cells)] 0)] ⟨cFixP rfl rfl (.cons (.free rfl rfl) <| .cons (.free rfl rfl) <| .cons (.free rfl rfl) <| .cons (.nil) <| .cons (.nil) <| .cons (.nil) <| .nil), trivial⟩ ?_
    exact .ret rfl
  · rw [if_neg c2] at h
    refine .condF rfl (nb c2) <| .skip <| .seq <| .room 0 <| .reg0 rfl (.op 4 rfl (alP (s := 6) ze39 ⟨rfl, by decide, rfl⟩ rfl) <| .nil0) <| .seq <| .seq <| .reg0 rfl (.op 0 rfl (faP fa25_0 rfl) <| .op 0 rfl (ldP rfl sz22 ag22 rfl) <| .nil0) <| .block <| .seq <| .reg0 rfl (.op 0 rfl (eqI rfl rfl) <| .op 0 rfl (asV rfl) <| .nil0) ?_
    by_cases c3 : a0.Tag = 2
    · rw [if_pos c3] at h
      refine .condT rfl (bt c3) ?_
      obtain ⟨t7_7, g7_7, h⟩ := h
      refine .room 0 <| .reg0 rfl (.op 0 rfl (faP fa25_1 rfl) <| .op 0 rfl (ldP rfl sz3 ag3 rfl) <| .op 0 rfl (faP fa39_1 rfl) <| .op 0 rfl (ldP rfl sz3 ag3 rfl) <| .op 0 rfl (faP fa39_1 rfl) <| .op 0 rfl (ldP rfl sz3 ag3 rfl) <| .op 5 rfl (bldL (s := 1) (cs := [i6 a1.Cost, i6 a2.Cost]) un29 sz3 ze3 ⟨by decide, rfl, by decide⟩ rfl rfl rfl rfl) <| .callI rfl (callee_of rfl go77 rfl) (.lendC (args' := [i6 a0.Dim, .rows ([a1.Cost, a2.Cost].map (cInt .i64))])  [5] false (.cons (.free rfl rfl) <| .cons (cFixO (l := [a1.Cost, a2.Cost]) sl29 rfl rfl rfl rfl) <| .nil) (by decide) rfl rfl rfl rfl (cost_Sum.D g7_7)) <| .op 0 rfl (mvT rfl) <| .op 0 rfl (exT rfl rfl) <| .op 0 rfl (exT rfl rfl) <| .op 0 rfl (faP fa39_1 rfl) <| .op 0 rfl (stB (cs0 := GH_c0) (cs := [i6 t7_7.1]) (cs1 := [bo false, i6 t7_7.1, u6 0, nul, nul, nul]) rfl rfl sz3 rfl ⟨Nat.le_of_ble_eq_true rfl, rfl⟩ rfl) <| .nil0) ?_
      refine .inBlock <| .seq <| .reg0 rfl (.op 0 rfl (ldG rfl sz39 ag39 rfl) <| .op 0 rfl (stB (cs0 := GH_c0) (cs := [bo false, i6 t7_7.1, u6 0, nul, nul, nul]) (cs1 := [bo false, i6 t7_7.1, u6 0, nul, nul, nul]) rfl rfl sz39 rfl ⟨Nat.le_of_ble_eq_true rfl, rfl⟩ rfl) <| .nil0) ?_
      replace h := h.symm
      subst h
      refine .k [(6, .cptr [bo false, i6 t7_7.1, u6 0, .rows (([] : List Int).map (cInt .u64)), .rows (([] : List TCell).map TCell.cells), .rows (([] : List TWeight).map TWeight.cells)] 0)] ⟨cFixP rfl rfl (.cons (.free rfl rfl) <| .cons (.free rfl rfl) <| .cons (.free rfl rfl) <| .cons (.nil) <| .cons (.nil) <| .cons (.nil) <| .nil), trivial⟩ ?_
      exact .ret rfl
    · rw [if_neg c3] at h
      refine .condF rfl (bn c3) <| .seq <| .reg0 rfl (.op 0 rfl (eqI rfl rfl) <| .op 0 rfl (asV rfl) <| .nil0) ?_
      by_cases c4 : a0.Tag = 3
      · rw [if_pos c4] at h
        refine .condT rfl (bt c4) ?_
        obtain ⟨t10_6, g10_6, h⟩ := h
        refine .reg0 rfl (.o (faP fa25_1 rfl) <| .o (ldP rfl sz3 ag3 rfl) <| .o (faP fa39_2 rfl) <| .o (ldG rfl sz35 ag35 rfl) <| .o (faP fa39_2 rfl) <| .o (ldG rfl sz35 ag35 rfl) <| .c rfl go78 rfl rfl rfl (facts_Extend.D g10_6) <| .o (mvT rfl) <| .o (exT rfl rfl) <| .o (exT rfl rfl) <| .o (faP fa39_2 rfl) <| .o (stB (cs0 := GH_c0) (cs := (TFacts.lit t10_6.1)) (cs1 := [bo false, i6 0, u6 t10_6.1.Gen, .rows (t10_6.1.Rows.map (cInt .u64)), nul, nul]) rfl rfl sz35 rfl ⟨Nat.le_of_ble_eq_true rfl, rfl⟩ rfl) <| .nil0) ?_
        refine .inBlock <| .seq <| .reg0 rfl (.op 0 rfl (ldG rfl sz39 ag39 rfl) <| .op 0 rfl (stB (cs0 := GH_c0) (cs := [bo false, i6 0, u6 t10_6.1.Gen, .rows (t10_6.1.Rows.map (cInt .u64)), nul, nul]) (cs1 := [bo false, i6 0, u6 t10_6.1.Gen, .rows (t10_6.1.Rows.map (cInt .u64)), nul, nul]) rfl rfl sz39 rfl ⟨Nat.le_of_ble_eq_true rfl, rfl⟩ rfl) <| .nil0) ?_
        replace h := h.symm
        subst h
        refine .k [(6, .cptr [bo false, i6 0, u6 t10_6.1.Gen, .rows (t10_6.1.Rows.map (cInt .u64)), .rows (([] : List TCell).map TCell.cells), .rows (([] : List TWeight).map TWeight.cells)] 0)] ⟨cFixP rfl rfl (.cons (.free rfl rfl) <| .cons (.free rfl rfl) <| .cons (.free rfl rfl) <| .cons (.free rfl rfl) <| .cons (.nil) <| .cons (.nil) <| .nil), trivial⟩ ?_
        exact .ret rfl
      · rw [if_neg c4] at h
        refine .condF rfl (bn c4) <| .seq <| .reg0 rfl (.op 0 rfl (eqI rfl rfl) <| .op 0 rfl (asV rfl) <| .nil0) ?_
        by_cases c5 : a0.Tag = 4
        · rw [if_pos c5] at h
          refine .condT rfl (bt c5) ?_
          obtain ⟨t13_6, g13_6, h⟩ := h
          refine .reg0 rfl (.o (faP fa25_1 rfl) <| .o (ldP rfl sz3 ag3 rfl) <| .o (faP fa39_3 rfl) <| .o (ldP rfl sz36 ag36 rfl) <| .o (faP fa39_3 rfl) <| .o (ldP rfl sz36 ag36 rfl) <| .c rfl go79 rfl rfl rfl (cells_Then.D g13_6) <| .o (mvT rfl) <| .o (exT rfl rfl) <| .o (exT rfl rfl) <| .o (faP fa39_3 rfl) <| .o (stB (cs0 := GH_c0) (cs := [.rows (t13_6.1.map TCell.cells)]) (cs1 := [bo false, i6 0, u6 0, nul, .rows (t13_6.1.map TCell.cells), nul]) rfl rfl sz36 rfl ⟨Nat.le_of_ble_eq_true rfl, rfl⟩ rfl) <| .nil0) ?_
          refine .inBlock <| .seq <| .reg0 rfl (.op 0 rfl (ldG rfl sz39 ag39 rfl) <| .op 0 rfl (stB (cs0 := GH_c0) (cs := [bo false, i6 0, u6 0, nul, .rows (t13_6.1.map TCell.cells), nul]) (cs1 := [bo false, i6 0, u6 0, nul, .rows (t13_6.1.map TCell.cells), nul]) rfl rfl sz39 rfl ⟨Nat.le_of_ble_eq_true rfl, rfl⟩ rfl) <| .nil0) ?_
          replace h := h.symm
          subst h
          refine .k [(6, .cptr [bo false, i6 0, u6 0, .rows (([] : List Int).map (cInt .u64)), .rows (t13_6.1.map TCell.cells), .rows (([] : List TWeight).map TWeight.cells)] 0)] ⟨cFixP rfl rfl (.cons (.free rfl rfl) <| .cons (.free rfl rfl) <| .cons (.free rfl rfl) <| .cons (.nil) <| .cons (.free rfl rfl) <| .cons (.nil) <| .nil), trivial⟩ ?_
          exact .ret rfl
        · rw [if_neg c5] at h
          refine .condF rfl (bn c5) <| .seq <| .reg0 rfl (.op 0 rfl (eqI rfl rfl) <| .op 0 rfl (asV rfl) <| .nil0) ?_
          by_cases c6 : a0.Tag = 5
          · rw [if_pos c6] at h
            refine .condT rfl (bt c6) ?_
            obtain ⟨g16_2, h⟩ := h
            obtain ⟨g16_6, h⟩ := h
            obtain ⟨g16_10, h⟩ := h
            obtain ⟨t16_12, g16_12, h⟩ := h
            obtain ⟨g16_15, h⟩ := h
            obtain ⟨g16_19, h⟩ := h
            obtain ⟨g16_23, h⟩ := h
            obtain ⟨t16_25, g16_25, h⟩ := h
            refine .room 0 ?_
            refine .reg1 (e1 := listEnv [(6, .ptr 3 1 6 0 0), (7, .ptr 4 1 6 0 0)]) (H1 := [⟨3, [(TSpace.lit a0)], 0, none⟩, ⟨6, [(TWeight.lit a1)], 0, none⟩, ⟨6, [(TWeight.lit a2)], 0, none⟩, ⟨6, [GH_c0], 0, none⟩, ⟨6, [[bo false, i6 0, u6 0, nul, nul, .own 5 ([t16_12, t16_25].length)]], 0, none⟩, ⟨6, [t16_12, t16_25].map TWeight.cells, 0, none⟩]) rfl ?_ ?_
            · exact .drawM [(27, 86, .ptr 4 1 6 0 5), (26, 85, .own 5 ([t16_12, t16_25].length)), (25, 84, .agg (TWeight.lit t16_25)), (24, 83, .agg (TWeight.lit (rdl a2.Parts 1))), (23, 82, .cptr (TWeight.lit (rdl a2.Parts 1)) 0), (22, 81, .rows (a2.Parts.map TWeight.cells)), (21, 80, .ptr 2 1 6 0 5), (20, 79, .agg (TWeight.lit (rdl a1.Parts 1))), (19, 78, .cptr (TWeight.lit (rdl a1.Parts 1)) 0), (18, 77, .rows (a1.Parts.map TWeight.cells)), (17, 76, .ptr 1 1 6 0 5), (16, 75, .agg (TSpace.lit (rdl a0.Parts 1))), (15, 74, .cptr (TSpace.lit (rdl a0.Parts 1)) 0), (14, 73, .rows (a0.Parts.map TSpace.cells)), (13, 72, .ptr 0 1 3 0 2), (12, 71, .agg (TWeight.lit t16_12)), (11, 70, .agg (TWeight.lit (rdl a2.Parts 0))), (10, 69, .cptr (TWeight.lit (rdl a2.Parts 0)) 0), (9, 68, .rows (a2.Parts.map TWeight.cells)), (8, 67, .ptr 2 1 6 0 5), (7, 66, .agg (TWeight.lit (rdl a1.Parts 0))), (6, 65, .cptr (TWeight.lit (rdl a1.Parts 0)) 0), (5, 64, .rows (a1.Parts.map TWeight.cells)), (4, 63, .ptr 1 1 6 0 5), (3, 62, .agg (TSpace.lit (rdl a0.Parts 0))), (2, 61, .cptr (TSpace.lit (rdl a0.Parts 0)) 0), (1, 60, .rows (a0.Parts.map TSpace.cells)), (0, 59, .ptr 0 1 3 0 2)] [(28, 4, ⟨6, [[bo false, i6 0, u6 0, nul, nul, .own 5 ([t16_12, t16_25].length)]], 0, none⟩), (26, 5, ⟨6, [t16_12, t16_25].map TWeight.cells, 0, none⟩)] [[], [0], [1, 0], [2, 1, 0], [], [4], [5, 4], [6, 5, 4], [], [8], [9, 8], [10, 9, 8], [3, 2, 1, 0, 7, 6, 5, 4, 11, 10, 9, 8], [], [13], [14, 13], [15, 14, 13], [], [17], [18, 17], [19, 18, 17], [], [21], [22, 21], [23, 22, 21], [16, 15, 14, 13, 20, 19, 18, 17, 24, 23, 22, 21, 12, 3, 2, 1, 0, 7, 6, 5, 4, 11, 10, 9, 8], [12, 3, 2, 1, 0, 7, 6, 5, 4, 11, 10, 9, 8, 25, 16, 15, 14, 13, 20, 19, 18, 17, 24, 23, 22, 21], [0, 1, 2, 3, 4, 5, 6, 7, 8, 9, 10, 11, 12, 13, 14, 15, 16, 17, 18, 19, 20, 21, 22, 23, 24, 25, 26], [27, 0, 1, 2, 3, 4, 5, 6, 7, 8, 9, 10, 11, 12, 13, 14, 15, 16, 17, 18, 19, 20, 21, 22, 23, 24, 25, 26]] (by rfl) (by rfl) (by rfl) (by exact ⟨oP (fun _ => faP fa25_2 rfl) rfl, oP (fun _ => ldP rfl sz23 ag23 rfl) rfl, oP (fun _ => ixR (l := a0.Parts) (lit := TSpace.lit) sl23 rfl rfl TSpace.cells_lit g16_2.1 g16_2.2) rfl, oP (fun _ => ldCG rfl sz25 ag25 rfl) rfl, oP (fun _ => faP fa39_4 rfl) rfl, oP (fun _ => ldP rfl sz37 ag37 rfl) rfl, oP (fun _ => ixR (l := a1.Parts) (lit := TWeight.lit) sl37 rfl rfl TWeight.cells_lit g16_6.1 g16_6.2) rfl, oP (fun _ => ldCG rfl sz39 ag39 rfl) rfl, oP (fun _ => faP fa39_4 rfl) rfl, oP (fun _ => ldP rfl sz37 ag37 rfl) rfl, oP (fun _ => ixR (l := a2.Parts) (lit := TWeight.lit) sl37 rfl rfl TWeight.cells_lit g16_10.1 g16_10.2) rfl, oP (fun _ => ldCG rfl sz39 ag39 rfl) rfl, fun S hS hD hn => .oneI hS hD hn rfl rfl (callee_of rfl go53 rfl) (.pure rfl rfl (hs53 _ _ _ _ g16_12)) rfl rfl rfl, oP (fun _ => faP fa25_2 rfl) rfl, oP (fun _ => ldP rfl sz23 ag23 rfl) rfl, oP (fun _ => ixR (l := a0.Parts) (lit := TSpace.lit) sl23 rfl rfl TSpace.cells_lit g16_15.1 g16_15.2) rfl, oP (fun _ => ldCG rfl sz25 ag25 rfl) rfl, oP (fun _ => faP fa39_4 rfl) rfl, oP (fun _ => ldP rfl sz37 ag37 rfl) rfl, oP (fun _ => ixR (l := a1.Parts) (lit := TWeight.lit) sl37 rfl rfl TWeight.cells_lit g16_19.1 g16_19.2) rfl, oP (fun _ => ldCG rfl sz39 ag39 rfl) rfl, oP (fun _ => faP fa39_4 rfl) rfl, oP (fun _ => ldP rfl sz37 ag37 rfl) rfl, oP (fun _ => ixR (l := a2.Parts) (lit := TWeight.lit) sl37 rfl rfl TWeight.cells_lit g16_23.1 g16_23.2) rfl, oP (fun _ => ldCG rfl sz39 ag39 rfl) rfl, fun S hS hD hn => .oneI hS hD hn rfl rfl (callee_of rfl go53 rfl) (.pure rfl rfl (hs53 _ _ _ _ g16_25)) rfl rfl rfl, oW 5 (fun _ => bldT (s := 6) (cs := [bo t16_12.Zero, i6 t16_12.Cost, u6 t16_12.Facts.Gen, .rows (t16_12.Facts.Rows.map (cInt .u64)), .rows (t16_12.Cells.map TCell.cells), .rows (t16_12.Parts.map TWeight.cells), bo t16_25.Zero, i6 t16_25.Cost, u6 t16_25.Facts.Gen, .rows (t16_25.Facts.Rows.map (cInt .u64)), .rows (t16_25.Cells.map TCell.cells), .rows (t16_25.Parts.map TWeight.cells)]) (cf := TWeight.cells) [t16_12, t16_25] un37 sz39 ze39 ⟨by decide, rfl, by decide⟩ rfl rfl rfl (by simp only [List.map, TWeight.cells_lit]; rfl) rfl) rfl fun _ => rfl, oP (fun _ => faP fa39_4 rfl) rfl, fun S hS hD hn => .one0 0 rfl rfl (stB (cs0 := GH_c0) (cs := [.own 5 ([t16_12, t16_25].length)]) (cs1 := [bo false, i6 0, u6 0, nul, nul, .own 5 ([t16_12, t16_25].length)]) rfl rfl sz37 rfl ⟨Nat.le_of_ble_eq_true rfl, rfl⟩ rfl) (drawE_other _ _ _ _ rfl) rfl, trivial⟩) _ (by exact ⟨.ptr rfl, .ptr rfl, trivial⟩) (by rfl)
            refine .inBlock <| .seq <| .reg0 rfl (.op 0 rfl (ldG rfl sz39 ag39 rfl) <| .op 0 rfl (stB (cs0 := GH_c0) (cs := [bo false, i6 0, u6 0, nul, nul, .own 5 ([t16_12, t16_25].length)]) (cs1 := [bo false, i6 0, u6 0, nul, nul, .own 5 ([t16_12, t16_25].length)]) rfl rfl sz39 rfl ⟨Nat.le_of_ble_eq_true rfl, rfl⟩ rfl) <| .nil0) ?_
            replace h := h.symm
            subst h
            refine .k [(6, .cptr [bo false, i6 0, u6 0, .rows (([] : List Int).map (cInt .u64)), .rows (([] : List TCell).map TCell.cells), .rows ([t16_12, t16_25].map TWeight.cells)] 0)] ⟨cFixP rfl rfl (.cons (.free rfl rfl) <| .cons (.free rfl rfl) <| .cons (.free rfl rfl) <| .cons (.nil) <| .cons (.nil) <| .cons (cFixO (l := [t16_12, t16_25]) sl37 rfl rfl rfl rfl) <| .nil), trivial⟩ ?_
            exact .ret rfl
          · rw [if_neg c6] at h
            refine .condF rfl (bn c6) <| .skip <| .inBlock <| .seq <| .reg0 rfl (.op 0 rfl (ldG rfl sz39 ag39 rfl) <| .op 0 rfl (stB (cs0 := GH_c0) (cs := GH_c0) (cs1 := GH_c0) rfl rfl sz39 rfl ⟨Nat.le_of_ble_eq_true rfl, rfl⟩ rfl) <| .nil0) ?_
            replace h := h.symm
            subst h
            refine .k [(6, .cptr GH_c1 0)] ⟨cFixP rfl rfl (.cons (.free rfl rfl) <| .cons (.free rfl rfl) <| .cons (.free rfl rfl) <| .cons (.nil) <| .cons (.nil) <| .cons (.nil) <| .nil), trivial⟩ ?_
            exact .ret rfl
def weight_then.fN : Nat → TSpace → TWeight → TWeight → TWeight → Prop
  | 0 => fun _ _ _ _ => False
  | n + 1 => weight_then.step (weight_then.fN n)
theorem weight_then.ND : ∀ (n : Nat) {a0 : TSpace} {a1 : TWeight} {a2 : TWeight} {r : TWeight} (h : weight_then.fN n a0 a1 a2 r), D Tryz.prog X (.callH 53 [.agg (TSpace.lit a0), .agg (TWeight.lit a1), .agg (TWeight.lit a2)] [] (.agg (TWeight.lit r)) [])
  | 0, _, _, _, _, h => h.elim
  | n + 1, _, _, _, _, h => weight_then.stepD (fun _ _ _ _ h => weight_then.ND n h) h
def weight_then.f (a0 : TSpace) (a1 : TWeight) (a2 : TWeight) (r : TWeight) : Prop := ∃ n, weight_then.fN n a0 a1 a2 r
theorem weight_then.D {a0 a1 a2 r} (h : weight_then.f a0 a1 a2 r) : D Tryz.prog X (.callH 53 [.agg (TSpace.lit a0), .agg (TWeight.lit a1), .agg (TWeight.lit a2)] [] (.agg (TWeight.lit r)) []) := by obtain ⟨n, h⟩ := h; exact weight_then.ND n h
def slices_Clone_uint64.f (a0 : List Int) (r : (List Int)) : Prop :=
  if a0.length = 0 then (∀ (z_ : Option Addr) (k_ : Nat), if z_.isNone = true then (r = []) else (((Fits (0 + 0) 8)) ∧ r = [])) else (((Fits (0 + a0.length) 8)) ∧ r = a0)
theorem slices_Clone_uint64.D {a0 r} (h : slices_Clone_uint64.f a0 r) : D Tryz.prog X (.callH 80 [.rows (a0.map (cInt .u64))] [] (.rows (r.map (cInt .u64))) []) := by
  unfold slices_Clone_uint64.f at h
  by_cases c0_ : a0.length = 0
  · rw [if_pos c0_] at h
    have e0_ := List.eq_nil_of_length_eq_zero c0_
    subst e0_
    refine .nilQ [] [] fun z_ k_ => ?_
    replace h := h z_ k_
    refine .enter 8 0 fn80 rfl rfl rfl <| .seq <| .reg0 rfl (.op 0 rfl (asV rfl) <| .nil0) <| .seq <| .seq <| .reg0 rfl (.op 0 rfl (mvV rfl) <| .op 0 rfl (eqEN un33 rfl rfl) <| .nil0) ?_
    by_cases c1 : z_.isNone = true
    · rw [if_pos c1] at h
      refine .condT rfl c1 <| .seq <| .reg0 rfl (.op 0 rfl (asV rfl) <| .nil0) ?_
      replace h := h.symm
      subst h
      refine .k [(2, .rows (([] : List Int).map (cInt .u64)))] ⟨.nil, trivial⟩ ?_
      exact .ret rfl
    · rw [if_neg c1] at h
      refine .condF rfl (nb c1) <| .skip <| .seq ?_
      obtain ⟨g4_2, h⟩ := h
      refine .room 0 <| .room 0 <| .reg0 rfl (.op 0 rfl (bldL (s := 1) (cs := []) un33 sz32 ze32 ⟨by decide, rfl, by decide⟩ rfl rfl rfl rfl) <| .op 0 rfl (mvV rfl) <| .op 0 rfl (apL (l := []) [] sl33 rfl rfl rfl (Nat.zero_le _) rfl g4_2) <| .op 0 rfl (asO rfl) <| .nil0) ?_
      replace h := h.symm
      subst h
      refine .k [(2, .rows ([].map (cInt .u64)))] ⟨cFixO (l := []) sl33 rfl rfl rfl rfl, trivial⟩ ?_
      exact .ret rfl
  · rw [if_neg c0_] at h
    refine .enter 8 0 fn80 rfl rfl rfl <| .seq <| .reg0 rfl (.op 0 rfl (asV rfl) <| .nil0) <| .seq <| .seq <| .reg0 rfl (.op 0 rfl (mvR rfl) <| .op 0 rfl (eqRN c0_ un33 rfl rfl) <| .nil0) <| .condF rfl rfl <| .skip <| .seq ?_
    obtain ⟨g7_2, h⟩ := h
    refine .room 0 <| .room 0 <| .reg0 rfl (.op 0 rfl (bldL (s := 1) (cs := []) un33 sz32 ze32 ⟨by decide, rfl, by decide⟩ rfl rfl rfl rfl) <| .op 0 rfl (mvR rfl) <| .op 0 rfl (apL (l := []) a0 sl33 rfl rfl rfl (Nat.zero_le _) rfl g7_2) <| .op 0 rfl (asO rfl) <| .nil0) ?_
    replace h := h.symm
    subst h
    refine .k [(2, .rows (a0.map (cInt .u64)))] ⟨cFixO (l := a0) sl33 rfl rfl rfl rfl, trivial⟩ ?_
    exact .ret rfl
def slices_Clone_Cell.f (a0 : List TCell) (r : (List TCell)) : Prop :=
  if a0.length = 0 then (∀ (z_ : Option Addr) (k_ : Nat), if z_.isNone = true then (r = []) else (((Fits (0 + 0) 24)) ∧ r = [])) else (((Fits (0 + a0.length) 24)) ∧ r = a0)
theorem slices_Clone_Cell.D {a0 r} (h : slices_Clone_Cell.f a0 r) : D Tryz.prog X (.callH 81 [.rows (a0.map TCell.cells)] [] (.rows (r.map TCell.cells)) []) := by
  unfold slices_Clone_Cell.f at h
  by_cases c0_ : a0.length = 0
  · rw [if_pos c0_] at h
    have e0_ := List.eq_nil_of_length_eq_zero c0_
    subst e0_
    refine .nilQ [] [] fun z_ k_ => ?_
    replace h := h z_ k_
    refine .enter 8 0 fn81 rfl rfl rfl <| .seq <| .reg0 rfl (.op 0 rfl (asV rfl) <| .nil0) <| .seq <| .seq <| .reg0 rfl (.op 0 rfl (mvV rfl) <| .op 0 rfl (eqEN un36 rfl rfl) <| .nil0) ?_
    by_cases c1 : z_.isNone = true
    · rw [if_pos c1] at h
      refine .condT rfl c1 <| .seq <| .reg0 rfl (.op 0 rfl (asV rfl) <| .nil0) ?_
      replace h := h.symm
      subst h
      refine .k [(2, .rows (([] : List TCell).map TCell.cells))] ⟨.nil, trivial⟩ ?_
      exact .ret rfl
    · rw [if_neg c1] at h
      refine .condF rfl (nb c1) <| .skip <| .seq ?_
      obtain ⟨g4_2, h⟩ := h
      refine .room 0 <| .room 0 <| .reg0 rfl (.op 0 rfl (bldL (s := 3) (cs := []) un36 sz81 ze81 ⟨by decide, rfl, by decide⟩ rfl rfl rfl rfl) <| .op 0 rfl (mvV rfl) <| .op 0 rfl (apL (l := []) [] sl36 rfl rfl rfl (Nat.zero_le _) rfl g4_2) <| .op 0 rfl (asO rfl) <| .nil0) ?_
      replace h := h.symm
      subst h
      refine .k [(2, .rows ([].map TCell.cells))] ⟨cFixO (l := []) sl36 rfl rfl rfl rfl, trivial⟩ ?_
      exact .ret rfl
  · rw [if_neg c0_] at h
    refine .enter 8 0 fn81 rfl rfl rfl <| .seq <| .reg0 rfl (.op 0 rfl (asV rfl) <| .nil0) <| .seq <| .seq <| .reg0 rfl (.op 0 rfl (mvR rfl) <| .op 0 rfl (eqRN c0_ un36 rfl rfl) <| .nil0) <| .condF rfl rfl <| .skip <| .seq ?_
    obtain ⟨g7_2, h⟩ := h
    refine .room 0 <| .room 0 <| .reg0 rfl (.op 0 rfl (bldL (s := 3) (cs := []) un36 sz81 ze81 ⟨by decide, rfl, by decide⟩ rfl rfl rfl rfl) <| .op 0 rfl (mvR rfl) <| .op 0 rfl (apL (l := []) a0 sl36 rfl rfl rfl (Nat.zero_le _) rfl g7_2) <| .op 0 rfl (asO rfl) <| .nil0) ?_
    replace h := h.symm
    subst h
    refine .k [(2, .rows (a0.map TCell.cells))] ⟨cFixO (l := a0) sl36 rfl rfl rfl rfl, trivial⟩ ?_
    exact .ret rfl
def slices_Clone_Weight_o0.f (a0 : List TWeight) (r : (List TWeight)) : Prop :=
  if a0.length = 0 then (∀ (z_ : Option Addr) (k_ : Nat), if z_.isNone = true then (r = []) else (((Fits (0 + 0) 96)) ∧ r = [])) else (((Fits (0 + a0.length) 96)) ∧ r = a0)
theorem slices_Clone_Weight_o0.D {a0 r} (h : slices_Clone_Weight_o0.f a0 r) : D Tryz.prog X (.callH 82 [.rows (a0.map TWeight.cells)] [] (.own 0 r.length) [⟨6, r.map TWeight.cells, 0, none⟩]) := by
  unfold slices_Clone_Weight_o0.f at h
  by_cases c0_ : a0.length = 0
  · rw [if_pos c0_] at h
    have e0_ := List.eq_nil_of_length_eq_zero c0_
    subst e0_
    refine .nilQ [] [] fun z_ k_ => ?_
    replace h := h z_ k_
    refine .enter 8 0 fn82 rfl rfl rfl <| .seq <| .reg0 rfl (.op 0 rfl (asV rfl) <| .nil0) <| .seq <| .seq <| .reg0 rfl (.op 0 rfl (mvV rfl) <| .op 0 rfl (eqEN un37 rfl rfl) <| .nil0) ?_
    by_cases c1 : z_.isNone = true
    · rw [if_pos c1] at h
      refine .condT rfl c1 <| .seq <| .reg0 rfl (.op 0 rfl (asV rfl) <| .nil0) ?_
      replace h := h.symm
      subst h
      refine .room 6 <| .keepL [0] [(2, .own 0 0)] [⟨6, [].map TWeight.cells, 0, none⟩] (by decide) (by decide) ⟨.nilOwn, trivial⟩ ⟨⟨_, rfl, bcRow (l := []) sl37 (Nat.le_refl _) rfl⟩, trivial⟩ ?_
      exact .ret rfl
    · rw [if_neg c1] at h
      refine .condF rfl (nb c1) <| .skip <| .seq ?_
      obtain ⟨g4_2, h⟩ := h
      refine .room 0 <| .room 0 <| .reg0 rfl (.op 0 rfl (bldL (s := 6) (cs := []) un37 sz39 ze39 ⟨by decide, rfl, by decide⟩ rfl rfl rfl rfl) <| .op 0 rfl (mvV rfl) <| .op 0 rfl (apL (l := []) [] sl37 rfl rfl rfl (Nat.zero_le _) rfl g4_2) <| .op 0 rfl (asO rfl) <| .nil0) ?_
      replace h := h.symm
      subst h
      refine .keepL [0] [(2, .own 0 0)] [⟨6, [].map TWeight.cells, 0, none⟩] (by decide) (by decide) ⟨.own rfl, trivial⟩ ⟨⟨_, rfl, bcRow (l := []) sl37 (Nat.le_refl _) rfl⟩, trivial⟩ ?_
      exact .ret rfl
  · rw [if_neg c0_] at h
    refine .enter 8 0 fn82 rfl rfl rfl <| .seq <| .reg0 rfl (.op 0 rfl (asV rfl) <| .nil0) <| .seq <| .seq <| .reg0 rfl (.op 0 rfl (mvR rfl) <| .op 0 rfl (eqRN c0_ un37 rfl rfl) <| .nil0) <| .condF rfl rfl <| .skip <| .seq ?_
    obtain ⟨g7_2, h⟩ := h
    refine .room 0 <| .room 0 <| .reg0 rfl (.op 0 rfl (bldL (s := 6) (cs := []) un37 sz39 ze39 ⟨by decide, rfl, by decide⟩ rfl rfl rfl rfl) <| .op 0 rfl (mvR rfl) <| .op 0 rfl (apL (l := []) a0 sl37 rfl rfl rfl (Nat.zero_le _) rfl g7_2) <| .op 0 rfl (asO rfl) <| .nil0) ?_
    replace h := h.symm
    subst h
    refine .keepL [0] [(2, .own 0 a0.length)] [⟨6, a0.map TWeight.cells, 0, none⟩] (by decide) (by decide) ⟨.own rfl, trivial⟩ ⟨⟨_, rfl, bcRow (l := a0) sl37 (Nat.le_refl _) rfl⟩, trivial⟩ ?_
    exact .ret rfl
def weight_copied.b1 (self54 : TWeight → TWeight → Prop) (t4_2 : (List TWeight)) : ((List TWeight) × Int) → Rnd (((List TWeight) × Int)) ((List TWeight)) TWeight → Prop := fun (x1, x2) z1 => if x2 < (t4_2.length : Int) then (((InR x2 x1.length)) ∧ ∃ t16_8 : TWeight, (self54 (rdl x1 x2) t16_8) ∧ ((InR x2 x1.length)) ∧ z1 = .next ((setl x1 x2 t16_8), (IntKind.i64.wrap (x2 + 1)))) else (z1 = .exit x1)
def weight_copied.step (self54 : TWeight → TWeight → Prop) (a0 : TWeight) (r : TWeight) : Prop :=
  ∃ t2_3 : (List Int), (slices_Clone_uint64.f a0.Facts.Rows t2_3) ∧ ∃ t3_2 : (List TCell), (slices_Clone_Cell.f a0.Cells t3_2) ∧ ∃ t4_2 : (List TWeight), (slices_Clone_Weight_o0.f a0.Parts t4_2) ∧ ∃ o1 : Fin ((List TWeight)) TWeight, Loop (weight_copied.b1 self54 t4_2) (t4_2, 0) o1 ∧ o1.on (fun x3 => r = (TWeight.mk a0.Zero a0.Cost (TFacts.mk a0.Facts.Gen t2_3) t3_2 x3)) (fun r_ => r = r_)
theorem weight_copied.stepD {self54 : TWeight → TWeight → Prop} {a0 : TWeight} (hs54 : ∀ z0_ r_, self54 z0_ r_ → D Tryz.prog X (.callH 54 [.agg (TWeight.lit z0_)] [] (.agg (TWeight.lit r_)) [])) {r : TWeight} (h : weight_copied.step self54 a0 r) : D Tryz.prog X (.callH 54 [.agg (TWeight.lit a0)] [] (.agg (TWeight.lit r)) []) := by
  unfold weight_copied.step at h
  refine .enter 36 0 fn54 rfl rfl rfl <| .seq <| .room 0 <| .room 0 <| .reg0 rfl (.op 0 rfl (bxP (s := 6) (cs := (TWeight.lit a0)) rfl ⟨rfl, by decide, rfl⟩ rfl) <| .op 1 rfl (alP (s := 6) ze39 ⟨rfl, by decide, rfl⟩ rfl) <| .nil0) <| .seq ?_
  obtain ⟨t2_3, g2_3, h⟩ := h
  refine .reg0 rfl (.o (faP fa39_2 rfl) <| .o (faP fa35_1 rfl) <| .o (ldP rfl sz33 ag33 rfl) <| .c rfl go80 rfl rfl rfl (slices_Clone_uint64.D g2_3) <| .o (faP fa39_2 rfl) <| .o (faP fa35_1 rfl) <| .o (stB (cs0 := (TWeight.lit a0)) (cs := [.rows (t2_3.map (cInt .u64))]) (cs1 := [bo a0.Zero, i6 a0.Cost, u6 a0.Facts.Gen, .rows (t2_3.map (cInt .u64)), .rows (a0.Cells.map TCell.cells), .rows (a0.Parts.map TWeight.cells)]) rfl rfl sz33 rfl ⟨Nat.le_of_ble_eq_true rfl, rfl⟩ rfl) <| .nil0) ?_
  refine .seq ?_
  obtain ⟨t3_2, g3_2, h⟩ := h
  refine .reg0 rfl (.o (faP fa39_3 rfl) <| .o (ldP rfl sz36 ag36 rfl) <| .c rfl go81 rfl rfl rfl (slices_Clone_Cell.D g3_2) <| .o (faP fa39_3 rfl) <| .o (stB (cs0 := [bo a0.Zero, i6 a0.Cost, u6 a0.Facts.Gen, .rows (t2_3.map (cInt .u64)), .rows (a0.Cells.map TCell.cells), .rows (a0.Parts.map TWeight.cells)]) (cs := [.rows (t3_2.map TCell.cells)]) (cs1 := [bo a0.Zero, i6 a0.Cost, u6 a0.Facts.Gen, .rows (t2_3.map (cInt .u64)), .rows (t3_2.map TCell.cells), .rows (a0.Parts.map TWeight.cells)]) rfl rfl sz36 rfl ⟨Nat.le_of_ble_eq_true rfl, rfl⟩ rfl) <| .nil0) ?_
  refine .seq ?_
  obtain ⟨t4_2, g4_2, h⟩ := h
  refine .room 0 <| .reg0 rfl (.op 0 rfl (faP fa39_4 rfl) <| .op 0 rfl (ldP rfl sz37 ag37 rfl) <| .callI rfl (callee_of rfl go82 rfl) (.focus (args' := [.rows (a0.Parts.map TWeight.cells)]) (H0 := []) (Hc := [⟨6, t4_2.map TWeight.cells, 0, none⟩]) (Hd := [⟨6, t4_2.map TWeight.cells, 0, none⟩]) [] [] [2] false (.cons (.free rfl rfl) <| .nil) (HConvL.heap trivial) (by decide) rfl rfl (slices_Clone_Weight_o0.D g4_2) (.own rfl) (.cons (bcRow (l := t4_2) sl37 (Nat.le_refl _) rfl) <| .nil) rfl (.inr (.inl rfl)) rfl) <| .op 0 rfl (faP fa39_4 rfl) <| .op 0 rfl (stB (cs0 := [bo a0.Zero, i6 a0.Cost, u6 a0.Facts.Gen, .rows (t2_3.map (cInt .u64)), .rows (t3_2.map TCell.cells), .rows (a0.Parts.map TWeight.cells)]) (cs := [.own 2 t4_2.length]) (cs1 := [bo a0.Zero, i6 a0.Cost, u6 a0.Facts.Gen, .rows (t2_3.map (cInt .u64)), .rows (t3_2.map TCell.cells), .own 2 t4_2.length]) rfl rfl sz37 rfl ⟨Nat.le_of_ble_eq_true rfl, rfl⟩ rfl) <| .nil0) ?_
  refine .seq <| .seq <| .reg0 rfl (.op 0 rfl (faP fa39_4 rfl) <| .op 0 rfl (ldP rfl sz37 ag37 rfl) <| .op 0 rfl (lnO (l := t4_2) sl37 rfl rfl rfl) <| .op 0 rfl (mvV rfl) <| .nil0) <| .block <| .keepL [0, 2, 1] [(1, .ptr 0 1 6 0 0), (2, .ptr 2 1 6 0 0), (20, i6 (t4_2.length : Int)), (21, i6 0)] [⟨6, [[bo a0.Zero, i6 a0.Cost, u6 a0.Facts.Gen, .rows (t2_3.map (cInt .u64)), .rows (t3_2.map TCell.cells), .own 1 t4_2.length]], 0, none⟩, ⟨6, t4_2.map TWeight.cells, 0, none⟩, ⟨6, [GH_c0], 0, none⟩] (by decide) (by decide) ⟨.ptr rfl, .ptr rfl, .free rfl rfl, .free rfl rfl, trivial⟩ ⟨⟨_, rfl, bcBox (.cons (.free rfl rfl) <| .cons (.free rfl rfl) <| .cons (.free rfl rfl) <| .cons (.free rfl rfl) <| .cons (.free rfl rfl) <| .cons (.own rfl) <| .nil)⟩, ⟨_, rfl, bcRow (l := t4_2) sl37 (Nat.le_refl _) rfl⟩, ⟨_, rfl, bcBox (all2_free rfl)⟩, trivial⟩ ?_
  obtain ⟨o1, hL1, h⟩ := h
  refine .loopB (weight_copied.b1 self54 t4_2) (fun (x1, x2) => listEnv [(1, .ptr 0 1 6 0 0), (2, .ptr 2 1 6 0 0), (20, i6 (t4_2.length : Int)), (21, i6 x2)]) (fun (x1, x2) => [⟨6, [[bo a0.Zero, i6 a0.Cost, u6 a0.Facts.Gen, .rows (t2_3.map (cInt .u64)), .rows (t3_2.map TCell.cells), .own 1 x1.length]], 0, none⟩, ⟨6, x1.map TWeight.cells, 0, none⟩, ⟨6, [GH_c0], 0, none⟩]) (fun x3 => listEnv [(1, .ptr 0 1 6 0 0), (2, .ptr 2 1 6 0 0)]) (fun x3 => [⟨6, [[bo a0.Zero, i6 a0.Cost, u6 a0.Facts.Gen, .rows (t2_3.map (cInt .u64)), .rows (t3_2.map TCell.cells), .own 1 x3.length]], 0, none⟩, ⟨6, x3.map TWeight.cells, 0, none⟩, ⟨6, [GH_c0], 0, none⟩]) hL1 (fun r_ => r = r_) ?_ ?_ ?_
  · rintro x3 rfl
    try dsimp only [Fin.on] at h
    refine .seq <| .reg0 rfl (.op 0 rfl (ldG rfl sz39 ag39 rfl) <| .op 0 rfl (stB (cs0 := GH_c0) (cs := [bo a0.Zero, i6 a0.Cost, u6 a0.Facts.Gen, .rows (t2_3.map (cInt .u64)), .rows (t3_2.map TCell.cells), .own 1 x3.length]) (cs1 := [bo a0.Zero, i6 a0.Cost, u6 a0.Facts.Gen, .rows (t2_3.map (cInt .u64)), .rows (t3_2.map TCell.cells), .own 1 x3.length]) rfl rfl sz39 rfl ⟨Nat.le_of_ble_eq_true rfl, rfl⟩ rfl) <| .nil0) ?_
    replace h := h.symm
    subst h
    refine .k [(2, .cptr [bo a0.Zero, i6 a0.Cost, u6 a0.Facts.Gen, .rows (t2_3.map (cInt .u64)), .rows (t3_2.map TCell.cells), .rows (x3.map TWeight.cells)] 0)] ⟨cFixP rfl rfl (.cons (.free rfl rfl) <| .cons (.free rfl rfl) <| .cons (.free rfl rfl) <| .cons (.free rfl rfl) <| .cons (.free rfl rfl) <| .cons (cFixO (l := x3) sl37 rfl rfl rfl rfl) <| .nil), trivial⟩ ?_
    exact .ret rfl
  · rintro r_ rfl
    exact h
  · rintro ⟨x1, x2⟩ z1 h hn1 hx1 hr1
    dsimp only [weight_copied.b1] at h
    refine .seq <| .reg0 rfl (.op 0 rfl (ltI rfl rfl) <| .nil0) <| .seq ?_
    by_cases c3 : x2 < (t4_2.length : Int)
    · rw [if_pos c3] at h
      refine .condT rfl (dt c3) <| .skip <| .seq <| .block <| .seq <| .reg0 rfl (.op 0 rfl (mvV rfl) <| .op 0 rfl (asV rfl) <| .nil0) ?_
      obtain ⟨g16_6, h⟩ := h
      obtain ⟨t16_8, g16_8, h⟩ := h
      obtain ⟨g16_9, h⟩ := h
      refine .reg1 (e1 := listEnv [(1, .ptr 0 1 6 0 0), (2, .ptr 2 1 6 0 0), (20, i6 (t4_2.length : Int)), (21, i6 x2)]) (H1 := [⟨6, [[bo a0.Zero, i6 a0.Cost, u6 a0.Facts.Gen, .rows (t2_3.map (cInt .u64)), .rows (t3_2.map TCell.cells), .own 1 x1.length]], 0, none⟩, ⟨6, (setl x1 x2 t16_8).map TWeight.cells, 0, none⟩, ⟨6, [GH_c0], 0, none⟩]) rfl ?_ ?_
      · exact .drawM [(9, 33, .ptr 1 x1.length 6 (Int.toNat x2) 0), (8, 32, .agg (TWeight.lit t16_8)), (7, 31, .agg (TWeight.lit (rdl x1 x2))), (6, 30, .ptr 1 x1.length 6 (Int.toNat x2) 0), (5, 29, i6 x2), (4, 28, .own 1 x1.length), (3, 27, .ptr 0 1 6 0 5), (2, 26, i6 x2), (1, 25, .own 1 x1.length), (0, 24, .ptr 0 1 6 0 5)] [(10, 1, ⟨6, (setl x1 x2 t16_8).map TWeight.cells, 0, none⟩)] [[], [0], [], [], [3], [], [4, 3, 5], [6, 4, 3, 5], [7, 6, 4, 3, 5], [1, 0, 2, 3, 4, 5, 6, 7, 8], [9, 1, 0, 2, 3, 4, 5, 6, 7, 8]] (by rfl) (by rfl) (by rfl) (by exact ⟨oP (fun _ => faP fa39_4 rfl) rfl, oP (fun _ => ldP rfl sz37 ag37 rfl) rfl, oP (fun _ => mvV rfl) rfl, oP (fun _ => faP fa39_4 rfl) rfl, oP (fun _ => ldP rfl sz37 ag37 rfl) rfl, oP (fun _ => mvV rfl) rfl, oP (fun _ => ixO (l := x1) sl37 rfl rfl rfl rfl g16_6.1 g16_6.2) rfl, oP (fun _ => ldOG (l := x1) (j := x2) sl37 rfl sz39 ag39 rfl rfl TWeight.cells_lit g16_6.1 g16_6.2 (by decide) rfl) rfl, fun S hS hD hn => .oneI hS hD hn rfl rfl (callee_of rfl go54 rfl) (.pure rfl rfl (hs54 _ _ g16_8)) rfl rfl rfl, oP (fun _ => ixO (l := x1) sl37 rfl rfl rfl rfl g16_9.1 g16_9.2) rfl, fun S hS hD hn => .one0 0 rfl rfl (stO (l := x1) (j := x2) (cs := (TWeight.lit t16_8)) t16_8 sl37 rfl rfl sz39 rfl rfl g16_9.1 g16_9.2 (Nat.zero_le _) ⟨Nat.le_of_ble_eq_true rfl, rfl⟩ (by simp only [TWeight.cells_lit]; rfl)) (drawE_other _ _ _ _ rfl) rfl, trivial⟩) _ (by exact ⟨.ptr rfl, .ptr rfl, .free rfl rfl, .free rfl rfl, trivial⟩) (by rfl)
      refine .inBlock <| .reg0 rfl (.op 0 rfl (addI rfl rfl) <| .op 0 rfl (mvV rfl) <| .nil0) <| .keepL [0, 1, 2] [(1, .ptr 0 1 6 0 0), (2, .ptr 2 1 6 0 0), (20, i6 (t4_2.length : Int)), (21, i6 (IntKind.i64.wrap (x2 + 1)))] [⟨6, [[bo a0.Zero, i6 a0.Cost, u6 a0.Facts.Gen, .rows (t2_3.map (cInt .u64)), .rows (t3_2.map TCell.cells), .own 1 ((setl x1 x2 t16_8).length)]], 0, none⟩, ⟨6, (setl x1 x2 t16_8).map TWeight.cells, 0, none⟩, ⟨6, [GH_c0], 0, none⟩] (by decide) (by decide) ⟨.ptr rfl, .ptr rfl, .free rfl rfl, .free rfl rfl, trivial⟩ ⟨⟨_, rfl, bcBox (.cons (.free rfl rfl) <| .cons (.free rfl rfl) <| .cons (.free rfl rfl) <| .cons (.free rfl rfl) <| .cons (.free rfl rfl) <| .cons (cOwnE rfl (by simp only [setl, List.length_set])) <| .nil)⟩, ⟨_, rfl, bcRow (l := (setl x1 x2 t16_8)) sl37 (Nat.le_refl _) rfl⟩, ⟨_, rfl, bcBox (all2_free rfl)⟩, trivial⟩ ?_
      exact hn1 _ h
    · rw [if_neg c3] at h
      refine .condF rfl (df c3) <| .exit rfl <| .keepL [0, 1, 2] [(1, .ptr 0 1 6 0 0), (2, .ptr 2 1 6 0 0)] [⟨6, [[bo a0.Zero, i6 a0.Cost, u6 a0.Facts.Gen, .rows (t2_3.map (cInt .u64)), .rows (t3_2.map TCell.cells), .own 1 x1.length]], 0, none⟩, ⟨6, x1.map TWeight.cells, 0, none⟩, ⟨6, [GH_c0], 0, none⟩] (by decide) (by decide) ⟨.ptr rfl, .ptr rfl, trivial⟩ ⟨⟨_, rfl, bcBox (.cons (.free rfl rfl) <| .cons (.free rfl rfl) <| .cons (.free rfl rfl) <| .cons (.free rfl rfl) <| .cons (.free rfl rfl) <| .cons (.own rfl) <| .nil)⟩, ⟨_, rfl, bcRow (l := x1) sl37 (Nat.le_refl _) rfl⟩, ⟨_, rfl, bcBox (all2_free rfl)⟩, trivial⟩ ?_
      exact hx1 _ h
def weight_copied.fN : Nat → TWeight → TWeight → Prop
  | 0 => fun _ _ => False
  | n + 1 => weight_copied.step (weight_copied.fN n)
theorem weight_copied.ND : ∀ (n : Nat) {a0 : TWeight} {r : TWeight} (h : weight_copied.fN n a0 r), D Tryz.prog X (.callH 54 [.agg (TWeight.lit a0)] [] (.agg (TWeight.lit r)) [])
  | 0, _, _, h => h.elim
  | n + 1, _, _, h => weight_copied.stepD (fun _ _ h => weight_copied.ND n h) h
def weight_copied.f (a0 : TWeight) (r : TWeight) : Prop := ∃ n, weight_copied.fN n a0 r
theorem weight_copied.D {a0 r} (h : weight_copied.f a0 r) : D Tryz.prog X (.callH 54 [.agg (TWeight.lit a0)] [] (.agg (TWeight.lit r)) []) := by obtain ⟨n, h⟩ := h; exact weight_copied.ND n h
end Go.RM.Tryz
