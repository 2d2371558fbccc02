/- GE, for the statement PdsSteps: what it needs, no more. -/
import Derived.Test.YtiiagjedhhmnbaaZPdsStepsGD
set_option linter.unusedVariables false
set_option maxRecDepth 8000
set_option maxHeartbeats 4000000
namespace Go.RM.Try
open Go.RM Go.Proofs
variable {X : FuncId → List PV → Heap → PV → Heap → Prop}
def weight_One.f (a0 : TSpace) (r : TWeight × Int) : Prop :=
  ∃ t2_1 : Int, (weight_Space.f a0 t2_1) ∧ if t2_1 = 0 then (∃ t4_1 : TWeight, (weight_one.f a0 t4_1) ∧ r = (t4_1, 0)) else (r = ((TWeight.mk false 0 (TFacts.mk 0 []) [] []), t2_1))
theorem weight_One.D {a0 : TSpace} {r : TWeight × Int} (h : weight_One.f a0 r) : D Try.prog X (.callH 20 [.agg (TSpace.lit a0)] [] (.tuple [.agg (TWeight.lit r.1), .val (.int .i64 r.2)]) []) := by
  unfold weight_One.f at h
  refine .enter 13 0 fn20 rfl rfl rfl ?_
  refine .seq ?_
  refine .room 0 ?_
  refine .room 0 ?_
  refine .reg0 rfl (.op 0 rfl (bxP (s := 3) (cs := (TSpace.lit a0)) rfl ⟨rfl, by decide, rfl⟩ rfl) <| .op 1 rfl (alP (s := 6) ze49 ⟨rfl, by decide, rfl⟩ rfl) <| .op 0 rfl (asV rfl) <| .nil0) ?_
  refine .seq ?_
  refine .seq ?_
  obtain ⟨t2_1, g2_1, h⟩ := h
  refine .reg0 rfl (.op 0 rfl (ldG rfl sz25 ag25 rfl) <| .callI rfl (callee_of rfl go33 rfl) (.pure rfl rfl (weight_Space.D g2_1)) <| .op 0 rfl (asV rfl) <| .nil0) ?_
  refine .seq ?_
  refine .reg0 rfl (.op 0 rfl (mvV rfl) <| .op 0 rfl (neI rfl rfl) <| .nil0) ?_
  by_cases c1 : t2_1 = 0
  · rw [if_pos c1] at h
    refine .condF rfl (bne_eq_false_iff_eq.mpr c1) ?_
    refine .skip ?_
    refine .seq ?_
    obtain ⟨t4_1, g4_1, h⟩ := h
    refine .reg0 rfl (.op 0 rfl (ldG rfl sz25 ag25 rfl) <| .callI rfl (callee_of rfl go38 rfl) (.pure rfl rfl (weight_one.D g4_1)) <| .op 0 rfl (stB (cs0 := [.val (.bool false), .val (.int .i64 0), .val (.int .u64 0), .val (.slice none 0 0), .val (.slice none 0 0), .val (.slice none 0 0)]) (cs := (TWeight.lit t4_1)) (cs1 := (TWeight.lit t4_1)) rfl rfl sz49 rfl ⟨Nat.le_of_ble_eq_true rfl, rfl⟩ rfl) <| .op 0 rfl (asV rfl) <| .nil0) ?_
    replace h := h.symm
    subst h
    refine .keepL [] [(2, .cptr (TWeight.lit t4_1) 0), (3, .val (.int .i64 0))] [] (by decide) (by decide) ⟨cFixP rfl rfl (.cons (.free rfl rfl) <| .cons (.free rfl rfl) <| .cons (.free rfl rfl) <| .cons (.free rfl rfl) <| .cons (.free rfl rfl) <| .cons (.free rfl rfl) <| .nil), .free rfl rfl, trivial⟩ trivial ?_
    exact .ret rfl
  · rw [if_neg c1] at h
    refine .condT rfl (bne_iff_ne.mpr c1) ?_
    refine .seq ?_
    refine .reg0 rfl (.op 0 rfl (bldS (cs := [.val (.bool false), .val (.int .i64 0), .val (.int .u64 0), .val (.slice none 0 0), .val (.slice none 0 0), .val (.slice none 0 0)]) ze49 pl49 rfl rfl) <| .op 0 rfl (mvV rfl) <| .op 0 rfl (stB (cs0 := [.val (.bool false), .val (.int .i64 0), .val (.int .u64 0), .val (.slice none 0 0), .val (.slice none 0 0), .val (.slice none 0 0)]) (cs := [.val (.bool false), .val (.int .i64 0), .val (.int .u64 0), .val (.slice none 0 0), .val (.slice none 0 0), .val (.slice none 0 0)]) (cs1 := [.val (.bool false), .val (.int .i64 0), .val (.int .u64 0), .val (.slice none 0 0), .val (.slice none 0 0), .val (.slice none 0 0)]) rfl rfl sz49 rfl ⟨Nat.le_of_ble_eq_true rfl, rfl⟩ rfl) <| .op 0 rfl (asV rfl) <| .nil0) ?_
    replace h := h.symm
    subst h
    refine .keepL [] [(2, .cptr [.val (.bool false), .val (.int .i64 0), .val (.int .u64 0), .rows (([] : List Int).map (cInt .u64)), .rows (([] : List TCell).map TCell.cells), .rows (([] : List TWeight).map TWeight.cells)] 0), (3, .val (.int .i64 t2_1))] [] (by decide) (by decide) ⟨cFixP rfl rfl (.cons (.free rfl rfl) <| .cons (.free rfl rfl) <| .cons (.free rfl rfl) <| .cons (.nil) <| .cons (.nil) <| .cons (.nil) <| .nil), .free rfl rfl, trivial⟩ trivial ?_
    exact .ret rfl
def slices_Clone_int.f (a0 : List Int) (r : (List Int)) : Prop :=
  if a0.length = 0 then (∀ (z_ : Option Addr) (k_ : Nat), if z_.isNone = true then (r = []) else (((Fits (0 + 0) 8)) ∧ r = [])) else (((Fits (0 + a0.length) 8)) ∧ r = a0)
theorem slices_Clone_int.D {a0 : List Int} {r : (List Int)} (h : slices_Clone_int.f a0 r) : D Try.prog X (.callH 22 [.rows (a0.map (cInt .i64))] [] (.rows (r.map (cInt .i64))) []) := by
  unfold slices_Clone_int.f at h
  by_cases c0_ : a0.length = 0
  · rw [if_pos c0_] at h
    have e0_ := List.eq_nil_of_length_eq_zero c0_
    subst e0_
    refine .nilQ [] [] fun z_ k_ => ?_
    replace h := h z_ k_
    refine .enter 8 0 fn22 rfl rfl rfl ?_
    refine .seq ?_
    refine .reg0 rfl (.op 0 rfl (asV rfl) <| .nil0) ?_
    refine .seq ?_
    refine .seq ?_
    refine .reg0 rfl (.op 0 rfl (mvV rfl) <| .op 0 rfl (eqEN un30 rfl rfl) <| .nil0) ?_
    by_cases c1 : z_.isNone = true
    · rw [if_pos c1] at h
      refine .condT rfl c1 ?_
      refine .seq ?_
      refine .reg0 rfl (.op 0 rfl (asV rfl) <| .nil0) ?_
      replace h := h.symm
      subst h
      refine .keepL [] [(2, .rows (([] : List Int).map (cInt .i64)))] [] (by decide) (by decide) ⟨.nil, trivial⟩ trivial ?_
      exact .ret rfl
    · rw [if_neg c1] at h
      refine .condF rfl (Bool.eq_false_iff.mpr c1) ?_
      refine .skip ?_
      refine .seq ?_
      obtain ⟨g4_2, h⟩ := h
      refine .room 0 ?_
      refine .room 0 ?_
      refine .reg0 rfl (.op 0 rfl (bldL (s := 1) (cs := []) un30 sz3 ze3 ⟨by decide, rfl, by decide⟩ rfl rfl rfl rfl) <| .op 0 rfl (mvV rfl) <| .op 0 rfl (apL (l := []) [] sl30 rfl rfl rfl (Nat.zero_le _) rfl g4_2) <| .op 0 rfl (asO rfl) <| .nil0) ?_
      replace h := h.symm
      subst h
      refine .keepL [] [(2, .rows ([].map (cInt .i64)))] [] (by decide) (by decide) ⟨cFixO (l := []) sl30 rfl rfl rfl rfl, trivial⟩ trivial ?_
      exact .ret rfl
  · rw [if_neg c0_] at h
    refine .enter 8 0 fn22 rfl rfl rfl ?_
    refine .seq ?_
    refine .reg0 rfl (.op 0 rfl (asV rfl) <| .nil0) ?_
    refine .seq ?_
    refine .seq ?_
    refine .reg0 rfl (.op 0 rfl (mvR rfl) <| .op 0 rfl (eqRN c0_ un30 rfl rfl) <| .nil0) ?_
    refine .condF rfl rfl ?_
    refine .skip ?_
    refine .seq ?_
    obtain ⟨g7_2, h⟩ := h
    refine .room 0 ?_
    refine .room 0 ?_
    refine .reg0 rfl (.op 0 rfl (bldL (s := 1) (cs := []) un30 sz3 ze3 ⟨by decide, rfl, by decide⟩ rfl rfl rfl rfl) <| .op 0 rfl (mvR rfl) <| .op 0 rfl (apL (l := []) a0 sl30 rfl rfl rfl (Nat.zero_le _) rfl g7_2) <| .op 0 rfl (asO rfl) <| .nil0) ?_
    replace h := h.symm
    subst h
    refine .keepL [] [(2, .rows (a0.map (cInt .i64)))] [] (by decide) (by decide) ⟨cFixO (l := a0) sl30 rfl rfl rfl rfl, trivial⟩ trivial ?_
    exact .ret rfl
def pds_Short_1.f (a0 : TRule) (a1 : Int) (a2 : Bool) (f0 : TShorted) (r : TShorted) : Prop :=
  ∃ t2_2 : (List Int), (slices_Clone_int.f a0.W t2_2) ∧ ((Fits (f0.Pds.Rules.length + 1) 144)) ∧ ((Fits (f0.Rule.length + 1) 8)) ∧ ((Fits (f0.First.length + 1) 1)) ∧ r = (TShorted.mk (TPds.mk f0.Pds.Space f0.Pds.States f0.Pds.Symbols (f0.Pds.Rules ++ [(TRule.mk a0.P a0.G a0.Q t2_2 a0.F)])) (f0.Rule ++ [a1]) (f0.First ++ [a2]))
theorem pds_Short_1.D {a0 : TRule} {a1 : Int} {a2 : Bool} {f0 : TShorted} {r : TShorted} (h : pds_Short_1.f a0 a1 a2 f0 r) : D Try.prog X (.callH 21 [.agg (TRule.lit a0), .val (.int .i64 a1), .val (.bool a2), .ptr 0 1 8 0 0] [⟨8, [[.val (.int .i64 f0.Pds.Space.Tag), .val (.int .i64 f0.Pds.Space.Dim), .rows (f0.Pds.Space.Parts.map TSpace.cells), .val (.int .i64 f0.Pds.States), .val (.int .i64 f0.Pds.Symbols), .own 2 f0.Pds.Rules.length, .own 3 f0.Rule.length, .own 1 f0.First.length]], 0, none⟩, ⟨1, f0.First.map cBool, 0, none⟩, ⟨10, f0.Pds.Rules.map TRule.cells, 0, none⟩, ⟨1, f0.Rule.map (cInt .i64), 0, none⟩] (.tuple []) [⟨8, [[.val (.int .i64 r.Pds.Space.Tag), .val (.int .i64 r.Pds.Space.Dim), .rows (r.Pds.Space.Parts.map TSpace.cells), .val (.int .i64 r.Pds.States), .val (.int .i64 r.Pds.Symbols), .own 2 r.Pds.Rules.length, .own 3 r.Rule.length, .own 1 r.First.length]], 0, none⟩, ⟨1, r.First.map cBool, 0, none⟩, ⟨10, r.Pds.Rules.map TRule.cells, 0, none⟩, ⟨1, r.Rule.map (cInt .i64), 0, none⟩]) := by
  unfold pds_Short_1.f at h
  refine .enter 31 4 fn21 rfl rfl rfl ?_
  refine .seq ?_
  refine .room 0 ?_
  refine .reg0 rfl (.op 4 rfl (bxP (s := 10) (cs := (TRule.lit a0)) rfl ⟨rfl, by decide, rfl⟩ rfl) <| .nil0) ?_
  refine .seq ?_
  obtain ⟨t2_2, g2_2, h⟩ := h
  refine .reg0 rfl (.op 0 rfl (faP fa51_3 rfl) <| .op 0 rfl (ldP rfl sz30 ag30 rfl) <| .callI rfl (callee_of rfl go22 rfl) (.pure rfl rfl (slices_Clone_int.D g2_2)) <| .op 0 rfl (faP fa51_3 rfl) <| .op 0 rfl (stB (cs0 := (TRule.lit a0)) (cs := [.rows (t2_2.map (cInt .i64))]) (cs1 := [.val (.int .i64 a0.P), .val (.int .i64 a0.G), .val (.int .i64 a0.Q), .rows (t2_2.map (cInt .i64)), .val (.bool a0.F.Zero), .val (.int .i64 a0.F.Cost), .val (.int .u64 a0.F.Facts.Gen), .rows (a0.F.Facts.Rows.map (cInt .u64)), .rows (a0.F.Cells.map TCell.cells), .rows (a0.F.Parts.map TWeight.cells)]) rfl rfl sz30 rfl ⟨Nat.le_of_ble_eq_true rfl, rfl⟩ rfl) <| .nil0) ?_
  refine .seq ?_
  obtain ⟨g3_5, h⟩ := h
  refine .room 0 ?_
  refine .room 0 ?_
  refine .reg0 rfl (.op 0 rfl (faP fa33_0 rfl) <| .op 0 rfl (faP fa28_3 rfl) <| .op 0 rfl (ldP rfl sz26 ag26 rfl) <| .op 0 rfl (ldG rfl sz51 ag51 rfl) <| .op 5 rfl (bldL (s := 10) (cs := [.val (.int .i64 a0.P), .val (.int .i64 a0.G), .val (.int .i64 a0.Q), .rows (t2_2.map (cInt .i64)), .val (.bool a0.F.Zero), .val (.int .i64 a0.F.Cost), .val (.int .u64 a0.F.Facts.Gen), .rows (a0.F.Facts.Rows.map (cInt .u64)), .rows (a0.F.Cells.map TCell.cells), .rows (a0.F.Parts.map TWeight.cells)]) un26 sz51 ze51 ⟨by decide, rfl, by decide⟩ rfl rfl rfl rfl) <| .op 0 rfl (ap1 (l := f0.Pds.Rules) (TRule.mk a0.P a0.G a0.Q t2_2 a0.F) sl26 rfl rfl rfl (Nat.zero_le _) (elems_own (l := [(TRule.mk a0.P a0.G a0.Q t2_2 a0.F)]) rfl rfl) g3_5) <| .op 0 rfl (faP fa33_0 rfl) <| .op 0 rfl (faP fa28_3 rfl) <| .op 0 rfl (stB (cs0 := [.val (.int .i64 f0.Pds.Space.Tag), .val (.int .i64 f0.Pds.Space.Dim), .rows (f0.Pds.Space.Parts.map TSpace.cells), .val (.int .i64 f0.Pds.States), .val (.int .i64 f0.Pds.Symbols), .own 2 f0.Pds.Rules.length, .own 3 f0.Rule.length, .own 1 f0.First.length]) (cs := [.own 2 ((f0.Pds.Rules ++ [(TRule.mk a0.P a0.G a0.Q t2_2 a0.F)]).length)]) (cs1 := [.val (.int .i64 f0.Pds.Space.Tag), .val (.int .i64 f0.Pds.Space.Dim), .rows (f0.Pds.Space.Parts.map TSpace.cells), .val (.int .i64 f0.Pds.States), .val (.int .i64 f0.Pds.Symbols), .own 2 ((f0.Pds.Rules ++ [(TRule.mk a0.P a0.G a0.Q t2_2 a0.F)]).length), .own 3 f0.Rule.length, .own 1 f0.First.length]) rfl rfl sz26 rfl ⟨Nat.le_of_ble_eq_true rfl, rfl⟩ rfl) <| .nil0) ?_
  refine .seq ?_
  obtain ⟨g4_4, h⟩ := h
  refine .room 0 ?_
  refine .room 0 ?_
  refine .reg0 rfl (.op 0 rfl (faP fa33_1 rfl) <| .op 0 rfl (ldP rfl sz30 ag30 rfl) <| .op 0 rfl (mvV rfl) <| .op 7 rfl (bldL (s := 1) (cs := [.val (.int .i64 a1)]) un30 sz3 ze3 ⟨by decide, rfl, by decide⟩ rfl rfl rfl rfl) <| .op 0 rfl (ap1 (l := f0.Rule) a1 sl30 rfl rfl rfl (Nat.zero_le _) (elems_own (l := [a1]) rfl rfl) g4_4) <| .op 0 rfl (faP fa33_1 rfl) <| .op 0 rfl (stB (cs0 := [.val (.int .i64 f0.Pds.Space.Tag), .val (.int .i64 f0.Pds.Space.Dim), .rows (f0.Pds.Space.Parts.map TSpace.cells), .val (.int .i64 f0.Pds.States), .val (.int .i64 f0.Pds.Symbols), .own 2 ((f0.Pds.Rules ++ [(TRule.mk a0.P a0.G a0.Q t2_2 a0.F)]).length), .own 3 f0.Rule.length, .own 1 f0.First.length]) (cs := [.own 3 ((f0.Rule ++ [a1]).length)]) (cs1 := [.val (.int .i64 f0.Pds.Space.Tag), .val (.int .i64 f0.Pds.Space.Dim), .rows (f0.Pds.Space.Parts.map TSpace.cells), .val (.int .i64 f0.Pds.States), .val (.int .i64 f0.Pds.Symbols), .own 2 ((f0.Pds.Rules ++ [(TRule.mk a0.P a0.G a0.Q t2_2 a0.F)]).length), .own 3 ((f0.Rule ++ [a1]).length), .own 1 f0.First.length]) rfl rfl sz30 rfl ⟨Nat.le_of_ble_eq_true rfl, rfl⟩ rfl) <| .nil0) ?_
  obtain ⟨g5_4, h⟩ := h
  refine .room 0 ?_
  refine .room 0 ?_
  refine .reg0 (e1 := listEnv []) (H1 := [⟨8, [[.val (.int .i64 f0.Pds.Space.Tag), .val (.int .i64 f0.Pds.Space.Dim), .rows (f0.Pds.Space.Parts.map TSpace.cells), .val (.int .i64 f0.Pds.States), .val (.int .i64 f0.Pds.Symbols), .own 2 ((f0.Pds.Rules ++ [(TRule.mk a0.P a0.G a0.Q t2_2 a0.F)]).length), .own 3 ((f0.Rule ++ [a1]).length), .own 1 ((f0.First ++ [a2]).length)]], 0, none⟩, ⟨1, (f0.First ++ [a2]).map cBool, 0, none⟩, ⟨10, (f0.Pds.Rules ++ [(TRule.mk a0.P a0.G a0.Q t2_2 a0.F)]).map TRule.cells, 0, none⟩, ⟨1, (f0.Rule ++ [a1]).map (cInt .i64), 0, none⟩, ⟨10, [[.val (.int .i64 a0.P), .val (.int .i64 a0.G), .val (.int .i64 a0.Q), .rows (t2_2.map (cInt .i64)), .val (.bool a0.F.Zero), .val (.int .i64 a0.F.Cost), .val (.int .u64 a0.F.Facts.Gen), .rows (a0.F.Facts.Rows.map (cInt .u64)), .rows (a0.F.Cells.map TCell.cells), .rows (a0.F.Parts.map TWeight.cells)]], 0, none⟩, ⟨10, [(TRule.mk a0.P a0.G a0.Q t2_2 a0.F)].map TRule.cells, 0, none⟩, Blk.hole, ⟨1, [a1].map (cInt .i64), 0, none⟩, Blk.hole, ⟨1, [a2].map cBool, 0, none⟩, Blk.hole]) rfl (.op 0 rfl (faP fa33_2 rfl) <| .op 0 rfl (ldP rfl sz31 ag31 rfl) <| .op 0 rfl (mvV rfl) <| .op 9 rfl (bldL (s := 1) (cs := [.val (.bool a2)]) un31 sz4 ze4 ⟨by decide, rfl, by decide⟩ rfl rfl rfl rfl) <| .op 0 rfl (ap1 (l := f0.First) a2 sl31 rfl rfl rfl (Nat.zero_le _) (elems_own (l := [a2]) rfl rfl) g5_4) <| .op 0 rfl (faP fa33_2 rfl) <| .op 0 rfl (stB (cs0 := [.val (.int .i64 f0.Pds.Space.Tag), .val (.int .i64 f0.Pds.Space.Dim), .rows (f0.Pds.Space.Parts.map TSpace.cells), .val (.int .i64 f0.Pds.States), .val (.int .i64 f0.Pds.Symbols), .own 2 ((f0.Pds.Rules ++ [(TRule.mk a0.P a0.G a0.Q t2_2 a0.F)]).length), .own 3 ((f0.Rule ++ [a1]).length), .own 1 f0.First.length]) (cs := [.own 1 ((f0.First ++ [a2]).length)]) (cs1 := [.val (.int .i64 f0.Pds.Space.Tag), .val (.int .i64 f0.Pds.Space.Dim), .rows (f0.Pds.Space.Parts.map TSpace.cells), .val (.int .i64 f0.Pds.States), .val (.int .i64 f0.Pds.Symbols), .own 2 ((f0.Pds.Rules ++ [(TRule.mk a0.P a0.G a0.Q t2_2 a0.F)]).length), .own 3 ((f0.Rule ++ [a1]).length), .own 1 ((f0.First ++ [a2]).length)]) rfl rfl sz31 rfl ⟨Nat.le_of_ble_eq_true rfl, rfl⟩ rfl) <| .nilL _ trivial) ?_
  replace h := h.symm
  subst h
  refine .keepL [0, 1, 2, 3] [] [⟨8, [[.val (.int .i64 f0.Pds.Space.Tag), .val (.int .i64 f0.Pds.Space.Dim), .rows (f0.Pds.Space.Parts.map TSpace.cells), .val (.int .i64 f0.Pds.States), .val (.int .i64 f0.Pds.Symbols), .own 2 ((f0.Pds.Rules ++ [(TRule.mk a0.P a0.G a0.Q t2_2 a0.F)]).length), .own 3 ((f0.Rule ++ [a1]).length), .own 1 ((f0.First ++ [a2]).length)]], 0, none⟩, ⟨1, (f0.First ++ [a2]).map cBool, 0, none⟩, ⟨10, (f0.Pds.Rules ++ [(TRule.mk a0.P a0.G a0.Q t2_2 a0.F)]).map TRule.cells, 0, none⟩, ⟨1, (f0.Rule ++ [a1]).map (cInt .i64), 0, none⟩] (by decide) (by decide) trivial ⟨⟨_, rfl, bcBox (.cons (.free rfl rfl) <| .cons (.free rfl rfl) <| .cons (.free rfl rfl) <| .cons (.free rfl rfl) <| .cons (.free rfl rfl) <| .cons (.own rfl) <| .cons (.own rfl) <| .cons (.own rfl) <| .nil)⟩, ⟨_, rfl, bcRow (l := (f0.First ++ [a2])) sl31 (Nat.le_refl _) rfl⟩, ⟨_, rfl, bcRow (l := (f0.Pds.Rules ++ [(TRule.mk a0.P a0.G a0.Q t2_2 a0.F)])) sl26 (Nat.le_refl _) rfl⟩, ⟨_, rfl, bcRow (l := (f0.Rule ++ [a1])) sl30 (Nat.le_refl _) rfl⟩, trivial⟩ ?_
  exact .done rfl
def pds_Short.b1 (a0 : TPds) : (Int × Int) → Rnd ((Int × Int)) Int (TShorted × Int) → Prop := fun (x1, x2) z1 => if x2 < (a0.Rules.length : Int) then (((InR x2 a0.Rules.length)) ∧ z1 = .next ((IntKind.i64.wrap (x1 + (if 0 > (IntKind.i64.wrap (((rdl a0.Rules x2).W.length : Int) - 2)) then 0 else (IntKind.i64.wrap (((rdl a0.Rules x2).W.length : Int) - 2))))), (IntKind.i64.wrap (x2 + 1)))) else (z1 = .exit x1)
def pds_Short.b3 (a0 : TPds) (t20_2 : TWeight × Int) (x59 : Int) : (Int × Int × (List TSpace) × Int × Int × (List TRule) × (List Int) × (List Bool) × Int × Int × (List Int) × Bool × Int × Int × (List Int) × (List TCell) × (List TWeight) × Int) → Rnd ((Int × Int × (List TSpace) × Int × Int × (List TRule) × (List Int) × (List Bool) × Int × Int × (List Int) × Bool × Int × Int × (List Int) × (List TCell) × (List TWeight) × Int)) ((Int × Int × (List TSpace) × Int × Int × (List TRule) × (List Int) × (List Bool) × Int × Int × (List Int) × Bool × Int × Int × (List Int) × (List TCell) × (List TWeight))) (TShorted × Int) → Prop := fun (x103, x104, x105, x106, x107, x108, x109, x110, x111, x112, x113, x114, x115, x116, x117, x118, x119, x120) z3 => if x120 > 2 then (((InR (IntKind.i64.wrap (x120 - 1)) (rdl a0.Rules x59).W.length)) ∧ ∃ t79_23 : TShorted, (pds_Short_1.f (TRule.mk x111 x112 x106 [x107, (rdl (rdl a0.Rules x59).W (IntKind.i64.wrap (x120 - 1)))] (TWeight.mk x114 x115 (TFacts.mk x116 x117) x118 x119)) x59 (x120 == ((rdl a0.Rules x59).W.length : Int)) (TShorted.mk (TPds.mk (TSpace.mk x103 x104 x105) (IntKind.i64.wrap (x106 + 1)) (IntKind.i64.wrap (x107 + 1)) x108) x109 x110) t79_23) ∧ ((Cut 0 (IntKind.i64.wrap (x120 - 1)) ((rdl a0.Rules x59).W.length))) ∧ z3 = .next (t79_23.Pds.Space.Tag, t79_23.Pds.Space.Dim, t79_23.Pds.Space.Parts, t79_23.Pds.States, t79_23.Pds.Symbols, t79_23.Pds.Rules, t79_23.Rule, t79_23.First, x106, x107, (cutl (rdl a0.Rules x59).W 0 (IntKind.i64.wrap (x120 - 1))), t20_2.1.Zero, t20_2.1.Cost, t20_2.1.Facts.Gen, t20_2.1.Facts.Rows, t20_2.1.Cells, t20_2.1.Parts, (IntKind.i64.wrap (x120 - 1)))) else (z3 = .exit (x103, x104, x105, x106, x107, x108, x109, x110, x111, x112, x113, x114, x115, x116, x117, x118, x119))
def pds_Short.b2 (a0 : TPds) (t20_2 : TWeight × Int) : (Int × Int × (List TSpace) × Int × Int × (List TRule) × (List Int) × (List Bool) × Int) → Rnd ((Int × Int × (List TSpace) × Int × Int × (List TRule) × (List Int) × (List Bool) × Int)) ((Int × Int × (List TSpace) × Int × Int × (List TRule) × (List Int) × (List Bool))) (TShorted × Int) → Prop := fun (x51, x52, x53, x54, x55, x56, x57, x58, x59) z2 => if x59 < (a0.Rules.length : Int) then (((InR x59 a0.Rules.length)) ∧ ∃ o3 : Fin ((Int × Int × (List TSpace) × Int × Int × (List TRule) × (List Int) × (List Bool) × Int × Int × (List Int) × Bool × Int × Int × (List Int) × (List TCell) × (List TWeight))) (TShorted × Int), Loop (pds_Short.b3 a0 t20_2 x59) (x51, x52, x53, x54, x55, x56, x57, x58, (rdl a0.Rules x59).P, (rdl a0.Rules x59).G, (rdl a0.Rules x59).W, (rdl a0.Rules x59).F.Zero, (rdl a0.Rules x59).F.Cost, (rdl a0.Rules x59).F.Facts.Gen, (rdl a0.Rules x59).F.Facts.Rows, (rdl a0.Rules x59).F.Cells, (rdl a0.Rules x59).F.Parts, ((rdl a0.Rules x59).W.length : Int)) o3 ∧ o3.on (fun (x121, x122, x123, x124, x125, x126, x127, x128, x129, x130, x131, x132, x133, x134, x135, x136, x137) => ∃ t82_7 : TShorted, (pds_Short_1.f (TRule.mk x129 x130 ((rdl a0.Rules x59).Q) x131 (TWeight.mk x132 x133 (TFacts.mk x134 x135) x136 x137)) x59 (decide (((rdl a0.Rules x59).W.length : Int) ≤ 2)) (TShorted.mk (TPds.mk (TSpace.mk x121 x122 x123) x124 x125 x126) x127 x128) t82_7) ∧ z2 = .next (t82_7.Pds.Space.Tag, t82_7.Pds.Space.Dim, t82_7.Pds.Space.Parts, t82_7.Pds.States, t82_7.Pds.Symbols, t82_7.Pds.Rules, t82_7.Rule, t82_7.First, (IntKind.i64.wrap (x59 + 1)))) (fun r_ => z2 = .ret r_)) else (z2 = .exit (x51, x52, x53, x54, x55, x56, x57, x58))
def pds_Short.f (a0 : TPds) (r : TShorted × Int) : Prop :=
  ∃ t2_1 : Int, (pds_Check.f a0 t2_1) ∧ if t2_1 = 0 then (∃ o1 : Fin Int (TShorted × Int), Loop (pds_Short.b1 a0) (0, 0) o1 ∧ o1.on (fun x3 => if ((decide (x3 > (IntKind.i64.wrap (4096 - a0.States)))) || ((decide (x3 > (IntKind.i64.wrap (4096 - a0.Symbols)))) || (decide (x3 > (IntKind.i64.wrap (16384 - (a0.Rules.length : Int))))))) = true then (r = ((TShorted.mk (TPds.mk (TSpace.mk 0 0 []) 0 0 []) [] []), 3)) else (∃ t20_2 : TWeight × Int, (weight_One.f a0.Space t20_2) ∧ ∃ o2 : Fin ((Int × Int × (List TSpace) × Int × Int × (List TRule) × (List Int) × (List Bool))) (TShorted × Int), Loop (pds_Short.b2 a0 t20_2) (a0.Space.Tag, a0.Space.Dim, a0.Space.Parts, a0.States, a0.Symbols, [], [], [], 0) o2 ∧ o2.on (fun (x95, x96, x97, x98, x99, x100, x101, x102) => r = ((TShorted.mk (TPds.mk (TSpace.mk x95 x96 x97) x98 x99 x100) x101 x102), 0)) (fun r_ => r = r_))) (fun r_ => r = r_)) else (r = ((TShorted.mk (TPds.mk (TSpace.mk 0 0 []) 0 0 []) [] []), t2_1))
theorem pds_Short.D {a0 : TPds} {r : TShorted × Int} (h : pds_Short.f a0 r) : D Try.prog X (.callH 7 [.agg (TPds.lit a0)] [] (.tuple [.agg (TShorted.lit r.1), .val (.int .i64 r.2)]) []) := by
  unfold pds_Short.f at h
  refine .enter 150 0 fn7 rfl rfl rfl ?_
  refine .seq ?_
  refine .room 0 ?_
  refine .room 0 ?_
  refine .reg0 rfl (.op 0 rfl (bxP (s := 6) (cs := (TPds.lit a0)) rfl ⟨rfl, by decide, rfl⟩ rfl) <| .op 1 rfl (alP (s := 8) ze33 ⟨rfl, by decide, rfl⟩ rfl) <| .op 0 rfl (asV rfl) <| .nil0) ?_
  refine .seq ?_
  refine .seq ?_
  obtain ⟨t2_1, g2_1, h⟩ := h
  refine .reg0 rfl (.op 0 rfl (ldG rfl sz28 ag28 rfl) <| .callI rfl (callee_of rfl go19 rfl) (.pure rfl rfl (pds_Check.D g2_1)) <| .op 0 rfl (asV rfl) <| .nil0) ?_
  refine .seq ?_
  refine .reg0 rfl (.op 0 rfl (mvV rfl) <| .op 0 rfl (neI rfl rfl) <| .nil0) ?_
  by_cases c1 : t2_1 = 0
  · rw [if_pos c1] at h
    refine .condF rfl (bne_eq_false_iff_eq.mpr c1) ?_
    refine .skip ?_
    refine .seq ?_
    refine .reg0 rfl (.op 0 rfl (asV rfl) <| .nil0) ?_
    refine .seq ?_
    refine .seq ?_
    refine .reg0 rfl (.op 0 rfl (faP fa28_3 rfl) <| .op 0 rfl (ldP rfl sz26 ag26 rfl) <| .op 0 rfl (lnR (l := a0.Rules) sl26 rfl) <| .op 0 rfl (mvV rfl) <| .nil0) ?_
    refine .block ?_
    refine .keepL [0, 1] [(1, .ptr 0 1 6 0 0), (2, .ptr 1 1 8 0 0), (5, .val (.int .i64 0)), (25, .rows (a0.Rules.map TRule.cells)), (26, .val (.int .i64 (a0.Rules.length : Int))), (27, .val (.int .i64 0))] [⟨6, [(TPds.lit a0)], 0, none⟩, ⟨8, [[.val (.int .i64 0), .val (.int .i64 0), .val (.slice none 0 0), .val (.int .i64 0), .val (.int .i64 0), .val (.slice none 0 0), .val (.slice none 0 0), .val (.slice none 0 0)]], 0, none⟩] (by decide) (by decide) ⟨.ptr rfl, .ptr rfl, .free rfl rfl, .free rfl rfl, .free rfl rfl, .free rfl rfl, trivial⟩ ⟨⟨_, rfl, bcBox (all2_free rfl)⟩, ⟨_, rfl, bcBox (all2_free rfl)⟩, trivial⟩ ?_
    obtain ⟨o1, hL1, h⟩ := h
    refine .loopB (pds_Short.b1 a0) (fun (x1, x2) => listEnv [(1, .ptr 0 1 6 0 0), (2, .ptr 1 1 8 0 0), (5, .val (.int .i64 x1)), (25, .rows (a0.Rules.map TRule.cells)), (26, .val (.int .i64 (a0.Rules.length : Int))), (27, .val (.int .i64 x2))]) (fun (x1, x2) => [⟨6, [(TPds.lit a0)], 0, none⟩, ⟨8, [[.val (.int .i64 0), .val (.int .i64 0), .val (.slice none 0 0), .val (.int .i64 0), .val (.int .i64 0), .val (.slice none 0 0), .val (.slice none 0 0), .val (.slice none 0 0)]], 0, none⟩]) (fun x3 => listEnv [(1, .ptr 0 1 6 0 0), (2, .ptr 1 1 8 0 0), (5, .val (.int .i64 x3))]) (fun x3 => [⟨6, [(TPds.lit a0)], 0, none⟩, ⟨8, [[.val (.int .i64 0), .val (.int .i64 0), .val (.slice none 0 0), .val (.int .i64 0), .val (.int .i64 0), .val (.slice none 0 0), .val (.slice none 0 0), .val (.slice none 0 0)]], 0, none⟩]) hL1 (fun r_ => r = r_) ?_ ?_ ?_
    · rintro x3 rfl
      try dsimp only [Fin.on] at h
      refine .seq ?_
      refine .seq ?_
      refine .reg0 (e1 := listEnv [(1, .ptr 0 1 6 0 0), (2, .ptr 1 1 8 0 0), (58, .val (.bool ((decide (x3 > (IntKind.i64.wrap (4096 - a0.States)))) || ((decide (x3 > (IntKind.i64.wrap (4096 - a0.Symbols)))) || (decide (x3 > (IntKind.i64.wrap (16384 - (a0.Rules.length : Int)))))))))]) (H1 := [⟨6, [(TPds.lit a0)], 0, none⟩, ⟨8, [[.val (.int .i64 0), .val (.int .i64 0), .val (.slice none 0 0), .val (.int .i64 0), .val (.int .i64 0), .val (.slice none 0 0), .val (.slice none 0 0), .val (.slice none 0 0)]], 0, none⟩]) rfl ?_ ?_
      · by_cases c5 : x3 > (IntKind.i64.wrap (4096 - a0.States))
        · exact (.op 0 rfl (mvV rfl) <| .op 0 rfl (faP fa28_1 rfl) <| .op 0 rfl (ldP rfl sz3 ag3 rfl) <| .op 0 rfl (subI rfl rfl) <| .op 0 rfl (gtI rfl rfl) <| .op 0 rfl (mvV rfl) <| .no (gF rfl rfl rfl (decide_eq_true c5)) <| .no (gF rfl rfl rfl (decide_eq_true c5)) <| .no (gF rfl rfl rfl (decide_eq_true c5)) <| .no (gF rfl rfl rfl (decide_eq_true c5)) <| .no (gF rfl rfl rfl (decide_eq_true c5)) <| .op 0 rfl (pkTV rfl (decide_eq_true c5) rfl) <| .op 0 rfl (mvV rfl) <| .no (gF rfl rfl rfl rfl) <| .no (gF rfl rfl rfl rfl) <| .no (gF rfl rfl rfl rfl) <| .no (gF rfl rfl rfl rfl) <| .no (gF rfl rfl rfl rfl) <| .no (gF rfl rfl rfl rfl) <| .op 0 rfl (pkTV rfl rfl rfl) <| .nilL _ ⟨.ptr rfl, .ptr rfl, cB rfl (mOrT (decide_eq_true c5)), trivial⟩)
        · by_cases c6 : x3 > (IntKind.i64.wrap (4096 - a0.Symbols))
          · exact (.op 0 rfl (mvV rfl) <| .op 0 rfl (faP fa28_1 rfl) <| .op 0 rfl (ldP rfl sz3 ag3 rfl) <| .op 0 rfl (subI rfl rfl) <| .op 0 rfl (gtI rfl rfl) <| .op 0 rfl (mvV rfl) <| .op 0 (gT rfl rfl rfl (decide_eq_false c5)) (mvV rfl) <| .op 0 (gT rfl rfl rfl (decide_eq_false c5)) (faP fa28_2 rfl) <| .op 0 (gT rfl rfl rfl (decide_eq_false c5)) (ldP rfl sz3 ag3 rfl) <| .op 0 (gT rfl rfl rfl (decide_eq_false c5)) (subI rfl rfl) <| .op 0 (gT rfl rfl rfl (decide_eq_false c5)) (gtI rfl rfl) <| .op 0 rfl (pkFV rfl (decide_eq_false c5) rfl) <| .op 0 rfl (mvV rfl) <| .no (gF rfl rfl rfl (decide_eq_true c6)) <| .no (gF rfl rfl rfl (decide_eq_true c6)) <| .no (gF rfl rfl rfl (decide_eq_true c6)) <| .no (gF rfl rfl rfl (decide_eq_true c6)) <| .no (gF rfl rfl rfl (decide_eq_true c6)) <| .no (gF rfl rfl rfl (decide_eq_true c6)) <| .op 0 rfl (pkTV rfl (decide_eq_true c6) rfl) <| .nilL _ ⟨.ptr rfl, .ptr rfl, cB rfl (mOrF (decide_eq_false c5) (mOrT (decide_eq_true c6))), trivial⟩)
          · exact (.op 0 rfl (mvV rfl) <| .op 0 rfl (faP fa28_1 rfl) <| .op 0 rfl (ldP rfl sz3 ag3 rfl) <| .op 0 rfl (subI rfl rfl) <| .op 0 rfl (gtI rfl rfl) <| .op 0 rfl (mvV rfl) <| .op 0 (gT rfl rfl rfl (decide_eq_false c5)) (mvV rfl) <| .op 0 (gT rfl rfl rfl (decide_eq_false c5)) (faP fa28_2 rfl) <| .op 0 (gT rfl rfl rfl (decide_eq_false c5)) (ldP rfl sz3 ag3 rfl) <| .op 0 (gT rfl rfl rfl (decide_eq_false c5)) (subI rfl rfl) <| .op 0 (gT rfl rfl rfl (decide_eq_false c5)) (gtI rfl rfl) <| .op 0 rfl (pkFV rfl (decide_eq_false c5) rfl) <| .op 0 rfl (mvV rfl) <| .op 0 (gT rfl rfl rfl (decide_eq_false c6)) (mvV rfl) <| .op 0 (gT rfl rfl rfl (decide_eq_false c6)) (faP fa28_3 rfl) <| .op 0 (gT rfl rfl rfl (decide_eq_false c6)) (ldP rfl sz26 ag26 rfl) <| .op 0 (gT rfl rfl rfl (decide_eq_false c6)) (lnR (l := a0.Rules) sl26 rfl) <| .op 0 (gT rfl rfl rfl (decide_eq_false c6)) (subI rfl rfl) <| .op 0 (gT rfl rfl rfl (decide_eq_false c6)) (gtI rfl rfl) <| .op 0 rfl (pkFV rfl (decide_eq_false c6) rfl) <| .nilL _ ⟨.ptr rfl, .ptr rfl, cB rfl (mOrF (decide_eq_false c5) (mOrF (decide_eq_false c6) rfl)), trivial⟩)
      by_cases c7 : ((decide (x3 > (IntKind.i64.wrap (4096 - a0.States)))) || ((decide (x3 > (IntKind.i64.wrap (4096 - a0.Symbols)))) || (decide (x3 > (IntKind.i64.wrap (16384 - (a0.Rules.length : Int))))))) = true
      · rw [if_pos c7] at h
        refine .condT rfl c7 ?_
        refine .seq ?_
        refine .reg0 rfl (.op 0 rfl (bldS (cs := [.val (.int .i64 0), .val (.int .i64 0), .val (.slice none 0 0), .val (.int .i64 0), .val (.int .i64 0), .val (.slice none 0 0), .val (.slice none 0 0), .val (.slice none 0 0)]) ze33 pl33 rfl rfl) <| .op 0 rfl (stB (cs0 := [.val (.int .i64 0), .val (.int .i64 0), .val (.slice none 0 0), .val (.int .i64 0), .val (.int .i64 0), .val (.slice none 0 0), .val (.slice none 0 0), .val (.slice none 0 0)]) (cs := [.val (.int .i64 0), .val (.int .i64 0), .val (.slice none 0 0), .val (.int .i64 0), .val (.int .i64 0), .val (.slice none 0 0), .val (.slice none 0 0), .val (.slice none 0 0)]) (cs1 := [.val (.int .i64 0), .val (.int .i64 0), .val (.slice none 0 0), .val (.int .i64 0), .val (.int .i64 0), .val (.slice none 0 0), .val (.slice none 0 0), .val (.slice none 0 0)]) rfl rfl sz33 rfl ⟨Nat.le_of_ble_eq_true rfl, rfl⟩ rfl) <| .op 0 rfl (asV rfl) <| .nil0) ?_
        replace h := h.symm
        subst h
        refine .keepL [] [(2, .cptr [.val (.int .i64 0), .val (.int .i64 0), .rows (([] : List TSpace).map TSpace.cells), .val (.int .i64 0), .val (.int .i64 0), .rows (([] : List TRule).map TRule.cells), .rows (([] : List Int).map (cInt .i64)), .rows (([] : List Bool).map cBool)] 0), (3, .val (.int .i64 3))] [] (by decide) (by decide) ⟨cFixP rfl rfl (.cons (.free rfl rfl) <| .cons (.free rfl rfl) <| .cons (.nil) <| .cons (.free rfl rfl) <| .cons (.free rfl rfl) <| .cons (.nil) <| .cons (.nil) <| .cons (.nil) <| .nil), .free rfl rfl, trivial⟩ trivial ?_
        exact .ret rfl
      · rw [if_neg c7] at h
        refine .condF rfl (Bool.eq_false_iff.mpr c7) ?_
        refine .skip ?_
        refine .seq ?_
        obtain ⟨t20_2, g20_2, h⟩ := h
        refine .room 0 ?_
        refine .reg0 rfl (.op 0 rfl (faP fa28_0 rfl) <| .op 0 rfl (ldG rfl sz25 ag25 rfl) <| .callI rfl (callee_of rfl go20 rfl) (.pure rfl rfl (weight_One.D g20_2)) <| .op 0 rfl (mvT rfl) <| .op 0 rfl (exT rfl rfl) <| .op 0 rfl (exT rfl rfl) <| .op 2 rfl (alP (s := 6) ze49 ⟨rfl, by decide, rfl⟩ rfl) <| .op 0 rfl (stB (cs0 := [.val (.bool false), .val (.int .i64 0), .val (.int .u64 0), .val (.slice none 0 0), .val (.slice none 0 0), .val (.slice none 0 0)]) (cs := (TWeight.lit t20_2.1)) (cs1 := (TWeight.lit t20_2.1)) rfl rfl sz49 rfl ⟨Nat.le_of_ble_eq_true rfl, rfl⟩ rfl) <| .op 0 rfl (asV rfl) <| .nil0) ?_
        refine .seq ?_
        refine .room 0 ?_
        refine .reg0 rfl (.op 0 rfl (faP fa28_0 rfl) <| .op 0 rfl (ldG rfl sz25 ag25 rfl) <| .op 0 rfl (faP fa28_1 rfl) <| .op 0 rfl (ldP rfl sz3 ag3 rfl) <| .op 0 rfl (faP fa28_2 rfl) <| .op 0 rfl (ldP rfl sz3 ag3 rfl) <| .op 0 rfl (bldS (cs := [.val (.int .i64 a0.Space.Tag), .val (.int .i64 a0.Space.Dim), .rows (a0.Space.Parts.map TSpace.cells), .val (.int .i64 a0.States), .val (.int .i64 a0.Symbols), .val (.slice none 0 0)]) ze28 pl28 rfl rfl) <| .op 0 rfl (bldS (cs := [.val (.int .i64 a0.Space.Tag), .val (.int .i64 a0.Space.Dim), .rows (a0.Space.Parts.map TSpace.cells), .val (.int .i64 a0.States), .val (.int .i64 a0.Symbols), .val (.slice none 0 0), .val (.slice none 0 0), .val (.slice none 0 0)]) ze33 pl33 rfl rfl) <| .op 3 rfl (alP (s := 8) ze33 ⟨rfl, by decide, rfl⟩ rfl) <| .op 0 rfl (stB (cs0 := [.val (.int .i64 0), .val (.int .i64 0), .val (.slice none 0 0), .val (.int .i64 0), .val (.int .i64 0), .val (.slice none 0 0), .val (.slice none 0 0), .val (.slice none 0 0)]) (cs := [.val (.int .i64 a0.Space.Tag), .val (.int .i64 a0.Space.Dim), .rows (a0.Space.Parts.map TSpace.cells), .val (.int .i64 a0.States), .val (.int .i64 a0.Symbols), .val (.slice none 0 0), .val (.slice none 0 0), .val (.slice none 0 0)]) (cs1 := [.val (.int .i64 a0.Space.Tag), .val (.int .i64 a0.Space.Dim), .rows (a0.Space.Parts.map TSpace.cells), .val (.int .i64 a0.States), .val (.int .i64 a0.Symbols), .val (.slice none 0 0), .val (.slice none 0 0), .val (.slice none 0 0)]) rfl rfl sz33 rfl ⟨Nat.le_of_ble_eq_true rfl, rfl⟩ rfl) <| .nil0) ?_
        refine .seq ?_
        refine .reg0 rfl (.op 0 rfl (mkF rfl) <| .op 0 rfl (asF rfl) <| .nil0) ?_
        refine .seq ?_
        refine .seq ?_
        refine .reg0 (e1 := listEnv [(2, .ptr 1 1 8 0 0), (8, .ptr 2 1 6 0 0), (10, .ptr 3 1 8 0 0), (11, .clo 21 [.ptr 3 1 8 0 0]), (76, .rows (a0.Rules.map TRule.cells)), (77, .val (.int .i64 (a0.Rules.length : Int))), (78, .val (.int .i64 0))]) (H1 := [⟨6, [(TPds.lit a0)], 0, none⟩, ⟨8, [[.val (.int .i64 0), .val (.int .i64 0), .val (.slice none 0 0), .val (.int .i64 0), .val (.int .i64 0), .val (.slice none 0 0), .val (.slice none 0 0), .val (.slice none 0 0)]], 0, none⟩, ⟨6, [(TWeight.lit t20_2.1)], 0, none⟩, ⟨8, [[.val (.int .i64 a0.Space.Tag), .val (.int .i64 a0.Space.Dim), .rows (a0.Space.Parts.map TSpace.cells), .val (.int .i64 a0.States), .val (.int .i64 a0.Symbols), .val (.slice none 0 0), .val (.slice none 0 0), .val (.slice none 0 0)]], 0, none⟩]) rfl (.op 0 rfl (faP fa28_3 rfl) <| .op 0 rfl (ldP rfl sz26 ag26 rfl) <| .op 0 rfl (lnR (l := a0.Rules) sl26 rfl) <| .op 0 rfl (mvV rfl) <| .nilL _ ⟨.ptr rfl, .ptr rfl, .ptr rfl, cClo (.cons (.ptr rfl) <| .nil), .free rfl rfl, .free rfl rfl, .free rfl rfl, trivial⟩) ?_
        refine .block ?_
        refine .room 10 ?_
        refine .room 1 ?_
        refine .room 1 ?_
        refine .keepL [1, 2, 3, 4, 5, 6] [(2, .ptr 0 1 8 0 0), (8, .ptr 1 1 6 0 0), (10, .ptr 2 1 8 0 0), (11, .clo 21 [.ptr 2 1 8 0 0]), (76, .rows (a0.Rules.map TRule.cells)), (77, .val (.int .i64 (a0.Rules.length : Int))), (78, .val (.int .i64 0))] [⟨8, [[.val (.int .i64 0), .val (.int .i64 0), .val (.slice none 0 0), .val (.int .i64 0), .val (.int .i64 0), .val (.slice none 0 0), .val (.slice none 0 0), .val (.slice none 0 0)]], 0, none⟩, ⟨6, [(TWeight.lit t20_2.1)], 0, none⟩, ⟨8, [[.val (.int .i64 a0.Space.Tag), .val (.int .i64 a0.Space.Dim), .rows (a0.Space.Parts.map TSpace.cells), .val (.int .i64 a0.States), .val (.int .i64 a0.Symbols), .own 3 0, .own 4 0, .own 5 0]], 0, none⟩, ⟨10, [].map TRule.cells, 0, none⟩, ⟨1, [].map (cInt .i64), 0, none⟩, ⟨1, [].map cBool, 0, none⟩] (by decide) (by decide) ⟨.ptr rfl, .ptr rfl, .ptr rfl, cClo (.cons (.ptr rfl) <| .nil), .free rfl rfl, .free rfl rfl, .free rfl rfl, trivial⟩ ⟨⟨_, rfl, bcBox (all2_free rfl)⟩, ⟨_, rfl, bcBox (all2_free rfl)⟩, ⟨_, rfl, bcBox (.cons (.free rfl rfl) <| .cons (.free rfl rfl) <| .cons (.free rfl rfl) <| .cons (.free rfl rfl) <| .cons (.free rfl rfl) <| .cons (.nilOwn) <| .cons (.nilOwn) <| .cons (.nilOwn) <| .nil)⟩, ⟨_, rfl, (bcRow (l := []) sl26 (Nat.le_refl _) rfl)⟩, ⟨_, rfl, (bcRow (l := []) sl30 (Nat.le_refl _) rfl)⟩, ⟨_, rfl, (bcRow (l := []) sl31 (Nat.le_refl _) rfl)⟩, trivial⟩ ?_
        obtain ⟨o2, hL2, h⟩ := h
        refine .loopB (pds_Short.b2 a0 t20_2) (fun (x51, x52, x53, x54, x55, x56, x57, x58, x59) => listEnv [(2, .ptr 0 1 8 0 0), (8, .ptr 1 1 6 0 0), (10, .ptr 2 1 8 0 0), (11, .clo 21 [.ptr 2 1 8 0 0]), (76, .rows (a0.Rules.map TRule.cells)), (77, .val (.int .i64 (a0.Rules.length : Int))), (78, .val (.int .i64 x59))]) (fun (x51, x52, x53, x54, x55, x56, x57, x58, x59) => [⟨8, [[.val (.int .i64 0), .val (.int .i64 0), .val (.slice none 0 0), .val (.int .i64 0), .val (.int .i64 0), .val (.slice none 0 0), .val (.slice none 0 0), .val (.slice none 0 0)]], 0, none⟩, ⟨6, [(TWeight.lit t20_2.1)], 0, none⟩, ⟨8, [[.val (.int .i64 x51), .val (.int .i64 x52), .rows (x53.map TSpace.cells), .val (.int .i64 x54), .val (.int .i64 x55), .own 3 x56.length, .own 4 x57.length, .own 5 x58.length]], 0, none⟩, ⟨10, x56.map TRule.cells, 0, none⟩, ⟨1, x57.map (cInt .i64), 0, none⟩, ⟨1, x58.map cBool, 0, none⟩]) (fun (x95, x96, x97, x98, x99, x100, x101, x102) => listEnv [(2, .ptr 0 1 8 0 0), (10, .ptr 1 1 8 0 0)]) (fun (x95, x96, x97, x98, x99, x100, x101, x102) => [⟨8, [[.val (.int .i64 0), .val (.int .i64 0), .val (.slice none 0 0), .val (.int .i64 0), .val (.int .i64 0), .val (.slice none 0 0), .val (.slice none 0 0), .val (.slice none 0 0)]], 0, none⟩, ⟨8, [[.val (.int .i64 x95), .val (.int .i64 x96), .rows (x97.map TSpace.cells), .val (.int .i64 x98), .val (.int .i64 x99), .own 2 x100.length, .own 3 x101.length, .own 4 x102.length]], 0, none⟩, ⟨10, x100.map TRule.cells, 0, none⟩, ⟨1, x101.map (cInt .i64), 0, none⟩, ⟨1, x102.map cBool, 0, none⟩]) hL2 (fun r_ => r = r_) ?_ ?_ ?_
        · rintro ⟨x95, x96, x97, x98, x99, x100, x101, x102⟩ rfl
          try dsimp only [Fin.on] at h
          refine .seq ?_
          refine .reg0 rfl (.op 0 rfl (ldG rfl sz33 ag33 rfl) <| .op 0 rfl (stB (cs0 := [.val (.int .i64 0), .val (.int .i64 0), .val (.slice none 0 0), .val (.int .i64 0), .val (.int .i64 0), .val (.slice none 0 0), .val (.slice none 0 0), .val (.slice none 0 0)]) (cs := [.val (.int .i64 x95), .val (.int .i64 x96), .rows (x97.map TSpace.cells), .val (.int .i64 x98), .val (.int .i64 x99), .own 2 x100.length, .own 3 x101.length, .own 4 x102.length]) (cs1 := [.val (.int .i64 x95), .val (.int .i64 x96), .rows (x97.map TSpace.cells), .val (.int .i64 x98), .val (.int .i64 x99), .own 2 x100.length, .own 3 x101.length, .own 4 x102.length]) rfl rfl sz33 rfl ⟨Nat.le_of_ble_eq_true rfl, rfl⟩ rfl) <| .op 0 rfl (asV rfl) <| .nil0) ?_
          replace h := h.symm
          subst h
          refine .keepL [] [(2, .cptr [.val (.int .i64 x95), .val (.int .i64 x96), .rows (x97.map TSpace.cells), .val (.int .i64 x98), .val (.int .i64 x99), .rows (x100.map TRule.cells), .rows (x101.map (cInt .i64)), .rows (x102.map cBool)] 0), (3, .val (.int .i64 0))] [] (by decide) (by decide) ⟨cFixP rfl rfl (.cons (.free rfl rfl) <| .cons (.free rfl rfl) <| .cons (.free rfl rfl) <| .cons (.free rfl rfl) <| .cons (.free rfl rfl) <| .cons (cFixO (l := x100) sl26 rfl rfl rfl rfl) <| .cons (cFixO (l := x101) sl30 rfl rfl rfl rfl) <| .cons (cFixO (l := x102) sl31 rfl rfl rfl rfl) <| .nil), .free rfl rfl, trivial⟩ trivial ?_
          exact .ret rfl
        · rintro r_ rfl
          exact h
        · rintro ⟨x51, x52, x53, x54, x55, x56, x57, x58, x59⟩ z2 h hn2 hx2 hr2
          dsimp only [pds_Short.b2] at h
          refine .seq ?_
          refine .reg0 rfl (.op 0 rfl (ltI rfl rfl) <| .nil0) ?_
          refine .seq ?_
          by_cases c14 : x59 < (a0.Rules.length : Int)
          · rw [if_pos c14] at h
            refine .condT rfl (decide_eq_true c14) ?_
            refine .skip ?_
            refine .seq ?_
            refine .block ?_
            refine .seq ?_
            obtain ⟨g61_1, h⟩ := h
            refine .room 0 ?_
            refine .reg0 rfl (.op 0 rfl (mvV rfl) <| .op 0 rfl (ixR (l := a0.Rules) (lit := TRule.lit) sl26 rfl rfl (fun _ => rfl) g61_1.1 g61_1.2) <| .op 0 rfl (ldCG rfl sz51 ag51 rfl) <| .op 6 rfl (alP (s := 10) ze51 ⟨rfl, by decide, rfl⟩ rfl) <| .op 0 rfl (asV rfl) <| .op 0 rfl (stB (cs0 := [.val (.int .i64 0), .val (.int .i64 0), .val (.int .i64 0), .val (.slice none 0 0), .val (.bool false), .val (.int .i64 0), .val (.int .u64 0), .val (.slice none 0 0), .val (.slice none 0 0), .val (.slice none 0 0)]) (cs := (TRule.lit (rdl a0.Rules x59))) (cs1 := (TRule.lit (rdl a0.Rules x59))) rfl rfl sz51 rfl ⟨Nat.le_of_ble_eq_true rfl, rfl⟩ rfl) <| .nil0) ?_
            refine .seq ?_
            refine .room 0 ?_
            refine .reg0 rfl (.op 0 rfl (ldG rfl sz51 ag51 rfl) <| .op 7 rfl (alP (s := 10) ze51 ⟨rfl, by decide, rfl⟩ rfl) <| .op 0 rfl (stB (cs0 := [.val (.int .i64 0), .val (.int .i64 0), .val (.int .i64 0), .val (.slice none 0 0), .val (.bool false), .val (.int .i64 0), .val (.int .u64 0), .val (.slice none 0 0), .val (.slice none 0 0), .val (.slice none 0 0)]) (cs := (TRule.lit (rdl a0.Rules x59))) (cs1 := (TRule.lit (rdl a0.Rules x59))) rfl rfl sz51 rfl ⟨Nat.le_of_ble_eq_true rfl, rfl⟩ rfl) <| .nil0) ?_
            refine .seq ?_
            refine .seq ?_
            refine .reg0 rfl (.op 0 rfl (faP fa51_3 rfl) <| .op 0 rfl (ldP rfl sz30 ag30 rfl) <| .op 0 rfl (lnR (l := (rdl a0.Rules x59).W) sl30 rfl) <| .op 0 rfl (asV rfl) <| .nil0) ?_
            refine .block ?_
            refine .keepL [0, 1, 2, 3, 4, 5, 6, 7] [(2, .ptr 0 1 8 0 0), (8, .ptr 1 1 6 0 0), (10, .ptr 2 1 8 0 0), (11, .clo 21 [.ptr 2 1 8 0 0]), (12, .val (.int .i64 x59)), (13, .ptr 6 1 10 0 0), (14, .ptr 7 1 10 0 0), (15, .val (.int .i64 ((rdl a0.Rules x59).W.length : Int))), (76, .rows (a0.Rules.map TRule.cells)), (77, .val (.int .i64 (a0.Rules.length : Int))), (78, .val (.int .i64 x59))] [⟨8, [[.val (.int .i64 0), .val (.int .i64 0), .val (.slice none 0 0), .val (.int .i64 0), .val (.int .i64 0), .val (.slice none 0 0), .val (.slice none 0 0), .val (.slice none 0 0)]], 0, none⟩, ⟨6, [(TWeight.lit t20_2.1)], 0, none⟩, ⟨8, [[.val (.int .i64 x51), .val (.int .i64 x52), .rows (x53.map TSpace.cells), .val (.int .i64 x54), .val (.int .i64 x55), .own 3 x56.length, .own 4 x57.length, .own 5 x58.length]], 0, none⟩, ⟨10, x56.map TRule.cells, 0, none⟩, ⟨1, x57.map (cInt .i64), 0, none⟩, ⟨1, x58.map cBool, 0, none⟩, ⟨10, [(TRule.lit (rdl a0.Rules x59))], 0, none⟩, ⟨10, [(TRule.lit (rdl a0.Rules x59))], 0, none⟩] (by decide) (by decide) ⟨.ptr rfl, .ptr rfl, .ptr rfl, cClo (.cons (.ptr rfl) <| .nil), .free rfl rfl, .ptr rfl, .ptr rfl, .free rfl rfl, .free rfl rfl, .free rfl rfl, .free rfl rfl, trivial⟩ ⟨⟨_, rfl, bcBox (all2_free rfl)⟩, ⟨_, rfl, bcBox (all2_free rfl)⟩, ⟨_, rfl, bcBox (.cons (.free rfl rfl) <| .cons (.free rfl rfl) <| .cons (.free rfl rfl) <| .cons (.free rfl rfl) <| .cons (.free rfl rfl) <| .cons (.own rfl) <| .cons (.own rfl) <| .cons (.own rfl) <| .nil)⟩, ⟨_, rfl, bcRow (l := x56) sl26 (Nat.le_refl _) rfl⟩, ⟨_, rfl, bcRow (l := x57) sl30 (Nat.le_refl _) rfl⟩, ⟨_, rfl, bcRow (l := x58) sl31 (Nat.le_refl _) rfl⟩, ⟨_, rfl, bcBox (all2_free rfl)⟩, ⟨_, rfl, bcBox (all2_free rfl)⟩, trivial⟩ ?_
            obtain ⟨o3, hL3, h⟩ := h
            refine .loopB (pds_Short.b3 a0 t20_2 x59) (fun (x103, x104, x105, x106, x107, x108, x109, x110, x111, x112, x113, x114, x115, x116, x117, x118, x119, x120) => listEnv [(2, .ptr 0 1 8 0 0), (8, .ptr 1 1 6 0 0), (10, .ptr 2 1 8 0 0), (11, .clo 21 [.ptr 2 1 8 0 0]), (12, .val (.int .i64 x59)), (13, .ptr 6 1 10 0 0), (14, .ptr 7 1 10 0 0), (15, .val (.int .i64 x120)), (76, .rows (a0.Rules.map TRule.cells)), (77, .val (.int .i64 (a0.Rules.length : Int))), (78, .val (.int .i64 x59))]) (fun (x103, x104, x105, x106, x107, x108, x109, x110, x111, x112, x113, x114, x115, x116, x117, x118, x119, x120) => [⟨8, [[.val (.int .i64 0), .val (.int .i64 0), .val (.slice none 0 0), .val (.int .i64 0), .val (.int .i64 0), .val (.slice none 0 0), .val (.slice none 0 0), .val (.slice none 0 0)]], 0, none⟩, ⟨6, [(TWeight.lit t20_2.1)], 0, none⟩, ⟨8, [[.val (.int .i64 x103), .val (.int .i64 x104), .rows (x105.map TSpace.cells), .val (.int .i64 x106), .val (.int .i64 x107), .own 3 x108.length, .own 4 x109.length, .own 5 x110.length]], 0, none⟩, ⟨10, x108.map TRule.cells, 0, none⟩, ⟨1, x109.map (cInt .i64), 0, none⟩, ⟨1, x110.map cBool, 0, none⟩, ⟨10, [(TRule.lit (rdl a0.Rules x59))], 0, none⟩, ⟨10, [[.val (.int .i64 x111), .val (.int .i64 x112), .val (.int .i64 ((rdl a0.Rules x59).Q)), .rows (x113.map (cInt .i64)), .val (.bool x114), .val (.int .i64 x115), .val (.int .u64 x116), .rows (x117.map (cInt .u64)), .rows (x118.map TCell.cells), .rows (x119.map TWeight.cells)]], 0, none⟩]) (fun (x121, x122, x123, x124, x125, x126, x127, x128, x129, x130, x131, x132, x133, x134, x135, x136, x137) => listEnv [(2, .ptr 0 1 8 0 0), (8, .ptr 1 1 6 0 0), (10, .ptr 2 1 8 0 0), (11, .clo 21 [.ptr 2 1 8 0 0]), (12, .val (.int .i64 x59)), (13, .ptr 6 1 10 0 0), (14, .ptr 7 1 10 0 0), (76, .rows (a0.Rules.map TRule.cells)), (77, .val (.int .i64 (a0.Rules.length : Int))), (78, .val (.int .i64 x59))]) (fun (x121, x122, x123, x124, x125, x126, x127, x128, x129, x130, x131, x132, x133, x134, x135, x136, x137) => [⟨8, [[.val (.int .i64 0), .val (.int .i64 0), .val (.slice none 0 0), .val (.int .i64 0), .val (.int .i64 0), .val (.slice none 0 0), .val (.slice none 0 0), .val (.slice none 0 0)]], 0, none⟩, ⟨6, [(TWeight.lit t20_2.1)], 0, none⟩, ⟨8, [[.val (.int .i64 x121), .val (.int .i64 x122), .rows (x123.map TSpace.cells), .val (.int .i64 x124), .val (.int .i64 x125), .own 3 x126.length, .own 4 x127.length, .own 5 x128.length]], 0, none⟩, ⟨10, x126.map TRule.cells, 0, none⟩, ⟨1, x127.map (cInt .i64), 0, none⟩, ⟨1, x128.map cBool, 0, none⟩, ⟨10, [(TRule.lit (rdl a0.Rules x59))], 0, none⟩, ⟨10, [[.val (.int .i64 x129), .val (.int .i64 x130), .val (.int .i64 ((rdl a0.Rules x59).Q)), .rows (x131.map (cInt .i64)), .val (.bool x132), .val (.int .i64 x133), .val (.int .u64 x134), .rows (x135.map (cInt .u64)), .rows (x136.map TCell.cells), .rows (x137.map TWeight.cells)]], 0, none⟩]) hL3 (fun r_ => z2 = .ret r_) ?_ ?_ ?_
            · rintro ⟨x121, x122, x123, x124, x125, x126, x127, x128, x129, x130, x131, x132, x133, x134, x135, x136, x137⟩ rfl
              try dsimp only [Fin.on] at h
              obtain ⟨t82_7, g82_7, h⟩ := h
              refine .reg0 rfl (.op 0 rfl (mvF rfl) <| .op 0 rfl (ldG rfl sz51 ag51 rfl) <| .op 0 rfl (mvV rfl) <| .op 0 rfl (faP fa51_3 rfl) <| .op 0 rfl (ldP rfl sz30 ag30 rfl) <| .op 0 rfl (lnR (l := (rdl a0.Rules x59).W) sl30 rfl) <| .op 0 rfl (leI rfl rfl) <| .callI rfl (callee_of rfl go21 rfl) (.focus (args' := [.agg [.val (.int .i64 x129), .val (.int .i64 x130), .val (.int .i64 ((rdl a0.Rules x59).Q)), .rows (x131.map (cInt .i64)), .val (.bool x132), .val (.int .i64 x133), .val (.int .u64 x134), .rows (x135.map (cInt .u64)), .rows (x136.map TCell.cells), .rows (x137.map TWeight.cells)], .val (.int .i64 x59), .val (.bool (decide (((rdl a0.Rules x59).W.length : Int) ≤ 2))), .ptr 0 1 8 0 0]) (H0 := [⟨8, [[.val (.int .i64 x121), .val (.int .i64 x122), .rows (x123.map TSpace.cells), .val (.int .i64 x124), .val (.int .i64 x125), .own 2 x126.length, .own 3 x127.length, .own 1 x128.length]], 0, none⟩, ⟨1, x128.map cBool, 0, none⟩, ⟨10, x126.map TRule.cells, 0, none⟩, ⟨1, x127.map (cInt .i64), 0, none⟩]) (Hc := [⟨8, [[.val (.int .i64 t82_7.Pds.Space.Tag), .val (.int .i64 t82_7.Pds.Space.Dim), .rows (t82_7.Pds.Space.Parts.map TSpace.cells), .val (.int .i64 t82_7.Pds.States), .val (.int .i64 t82_7.Pds.Symbols), .own 2 t82_7.Pds.Rules.length, .own 3 t82_7.Rule.length, .own 1 t82_7.First.length]], 0, none⟩, ⟨1, t82_7.First.map cBool, 0, none⟩, ⟨10, t82_7.Pds.Rules.map TRule.cells, 0, none⟩, ⟨1, t82_7.Rule.map (cInt .i64), 0, none⟩]) (Hd := [⟨8, [[.val (.int .i64 t82_7.Pds.Space.Tag), .val (.int .i64 t82_7.Pds.Space.Dim), .rows (t82_7.Pds.Space.Parts.map TSpace.cells), .val (.int .i64 t82_7.Pds.States), .val (.int .i64 t82_7.Pds.Symbols), .own 3 t82_7.Pds.Rules.length, .own 4 t82_7.Rule.length, .own 5 t82_7.First.length]], 0, none⟩, ⟨1, t82_7.First.map cBool, 0, none⟩, ⟨10, t82_7.Pds.Rules.map TRule.cells, 0, none⟩, ⟨1, t82_7.Rule.map (cInt .i64), 0, none⟩]) [2, 5, 3, 4] [] [] false (.cons (.free rfl rfl) <| .cons (.free rfl rfl) <| .cons (.free rfl rfl) <| .cons (.ptr rfl) <| .nil) (HConvL.heap ⟨⟨_, rfl, bcBox (.cons (.free rfl rfl) <| .cons (.free rfl rfl) <| .cons (.free rfl rfl) <| .cons (.free rfl rfl) <| .cons (.free rfl rfl) <| .cons (.own rfl) <| .cons (.own rfl) <| .cons (.own rfl) <| .nil)⟩, ⟨_, rfl, bcRow (l := x128) sl31 (Nat.le_refl _) rfl⟩, ⟨_, rfl, bcRow (l := x126) sl26 (Nat.le_refl _) rfl⟩, ⟨_, rfl, bcRow (l := x127) sl30 (Nat.le_refl _) rfl⟩, trivial⟩) (by decide) rfl rfl (pds_Short_1.D g82_7) (.free rfl rfl) (.cons (bcBox (.cons (.free rfl rfl) <| .cons (.free rfl rfl) <| .cons (.free rfl rfl) <| .cons (.free rfl rfl) <| .cons (.free rfl rfl) <| .cons (.own rfl) <| .cons (.own rfl) <| .cons (.own rfl) <| .nil)) <| .cons (bcRow (l := t82_7.First) sl31 (Nat.le_refl _) rfl) <| .cons (bcRow (l := t82_7.Pds.Rules) sl26 (Nat.le_refl _) rfl) <| .cons (bcRow (l := t82_7.Rule) sl30 (Nat.le_refl _) rfl) <| .nil) rfl (.inr (.inl rfl)) rfl) <| .nil0) ?_
              refine .inBlock ?_
              refine .reg0 rfl (.op 0 rfl (addI rfl rfl) <| .op 0 rfl (mvV rfl) <| .nil0) ?_
              refine .keepL [0, 1, 2, 3, 4, 5] [(2, .ptr 0 1 8 0 0), (8, .ptr 1 1 6 0 0), (10, .ptr 2 1 8 0 0), (11, .clo 21 [.ptr 2 1 8 0 0]), (76, .rows (a0.Rules.map TRule.cells)), (77, .val (.int .i64 (a0.Rules.length : Int))), (78, .val (.int .i64 (IntKind.i64.wrap (x59 + 1))))] [⟨8, [[.val (.int .i64 0), .val (.int .i64 0), .val (.slice none 0 0), .val (.int .i64 0), .val (.int .i64 0), .val (.slice none 0 0), .val (.slice none 0 0), .val (.slice none 0 0)]], 0, none⟩, ⟨6, [(TWeight.lit t20_2.1)], 0, none⟩, ⟨8, [[.val (.int .i64 t82_7.Pds.Space.Tag), .val (.int .i64 t82_7.Pds.Space.Dim), .rows (t82_7.Pds.Space.Parts.map TSpace.cells), .val (.int .i64 t82_7.Pds.States), .val (.int .i64 t82_7.Pds.Symbols), .own 3 t82_7.Pds.Rules.length, .own 4 t82_7.Rule.length, .own 5 t82_7.First.length]], 0, none⟩, ⟨10, t82_7.Pds.Rules.map TRule.cells, 0, none⟩, ⟨1, t82_7.Rule.map (cInt .i64), 0, none⟩, ⟨1, t82_7.First.map cBool, 0, none⟩] (by decide) (by decide) ⟨.ptr rfl, .ptr rfl, .ptr rfl, cClo (.cons (.ptr rfl) <| .nil), .free rfl rfl, .free rfl rfl, .free rfl rfl, trivial⟩ ⟨⟨_, rfl, bcBox (all2_free rfl)⟩, ⟨_, rfl, bcBox (all2_free rfl)⟩, ⟨_, rfl, bcBox (.cons (.free rfl rfl) <| .cons (.free rfl rfl) <| .cons (.free rfl rfl) <| .cons (.free rfl rfl) <| .cons (.free rfl rfl) <| .cons (.own rfl) <| .cons (.own rfl) <| .cons (.own rfl) <| .nil)⟩, ⟨_, rfl, bcRow (l := t82_7.Pds.Rules) sl26 (Nat.le_refl _) rfl⟩, ⟨_, rfl, bcRow (l := t82_7.Rule) sl30 (Nat.le_refl _) rfl⟩, ⟨_, rfl, bcRow (l := t82_7.First) sl31 (Nat.le_refl _) rfl⟩, trivial⟩ ?_
              exact hn2 _ h
            · rintro r_ rfl
              exact h
            · rintro ⟨x103, x104, x105, x106, x107, x108, x109, x110, x111, x112, x113, x114, x115, x116, x117, x118, x119, x120⟩ z3 h hn3 hx3 hr3
              dsimp only [pds_Short.b3] at h
              refine .seq ?_
              refine .seq ?_
              refine .reg0 rfl (.op 0 rfl (mvV rfl) <| .op 0 rfl (gtI rfl rfl) <| .nil0) ?_
              by_cases c17 : x120 > 2
              · rw [if_pos c17] at h
                refine .condT rfl (decide_eq_true c17) ?_
                refine .skip ?_
                refine .seq ?_
                refine .block ?_
                refine .seq ?_
                refine .reg1 (e1 := listEnv [(2, .ptr 0 1 8 0 0), (8, .ptr 1 1 6 0 0), (10, .ptr 2 1 8 0 0), (11, .clo 21 [.ptr 2 1 8 0 0]), (12, .val (.int .i64 x59)), (13, .ptr 6 1 10 0 0), (14, .ptr 7 1 10 0 0), (15, .val (.int .i64 x120)), (16, .val (.int .i64 x106)), (17, .val (.int .i64 x107)), (76, .rows (a0.Rules.map TRule.cells)), (77, .val (.int .i64 (a0.Rules.length : Int))), (78, .val (.int .i64 x59))]) (H1 := [⟨8, [[.val (.int .i64 0), .val (.int .i64 0), .val (.slice none 0 0), .val (.int .i64 0), .val (.int .i64 0), .val (.slice none 0 0), .val (.slice none 0 0), .val (.slice none 0 0)]], 0, none⟩, ⟨6, [(TWeight.lit t20_2.1)], 0, none⟩, ⟨8, [[.val (.int .i64 x103), .val (.int .i64 x104), .rows (x105.map TSpace.cells), .val (.int .i64 x106), .val (.int .i64 x107), .own 3 x108.length, .own 4 x109.length, .own 5 x110.length]], 0, none⟩, ⟨10, x108.map TRule.cells, 0, none⟩, ⟨1, x109.map (cInt .i64), 0, none⟩, ⟨1, x110.map cBool, 0, none⟩, ⟨10, [(TRule.lit (rdl a0.Rules x59))], 0, none⟩, ⟨10, [[.val (.int .i64 x111), .val (.int .i64 x112), .val (.int .i64 ((rdl a0.Rules x59).Q)), .rows (x113.map (cInt .i64)), .val (.bool x114), .val (.int .i64 x115), .val (.int .u64 x116), .rows (x117.map (cInt .u64)), .rows (x118.map TCell.cells), .rows (x119.map TWeight.cells)]], 0, none⟩]) rfl ?_ ?_
                · exact .drawM [(7, 17, .val (.int .i64 x107)), (6, 16, .val (.int .i64 x106)), (5, 96, .val (.int .i64 x107)), (4, 95, .ptr 2 1 8 0 4), (3, 94, .ptr 2 1 8 0 0), (2, 93, .val (.int .i64 x106)), (1, 92, .ptr 2 1 8 0 3), (0, 91, .ptr 2 1 8 0 0)] [] [[], [0], [1, 0], [], [3], [4, 3], [2, 1, 0], [5, 4, 3, 6, 2, 1, 0]] (by rfl) (by rfl) (by rfl) (by exact ⟨fun S hS hD hn => .one 0 hS hD hn rfl rfl (faP fa33_0 rfl) rfl rfl rfl, fun S hS hD hn => .one 0 hS hD hn rfl rfl (faP fa28_1 rfl) rfl rfl rfl, fun S hS hD hn => .one 0 hS hD hn rfl rfl (ldP rfl sz3 ag3 rfl) rfl rfl rfl, fun S hS hD hn => .one 0 hS hD hn rfl rfl (faP fa33_0 rfl) rfl rfl rfl, fun S hS hD hn => .one 0 hS hD hn rfl rfl (faP fa28_2 rfl) rfl rfl rfl, fun S hS hD hn => .one 0 hS hD hn rfl rfl (ldP rfl sz3 ag3 rfl) rfl rfl rfl, fun S hS hD hn => .one 0 hS hD hn rfl rfl (asV rfl) rfl rfl rfl, fun S hS hD hn => .one 0 hS hD hn rfl rfl (asV rfl) rfl rfl rfl, trivial⟩) _ (by exact ⟨.ptr rfl, .ptr rfl, .ptr rfl, cClo (.cons (.ptr rfl) <| .nil), .free rfl rfl, .ptr rfl, .ptr rfl, .free rfl rfl, .free rfl rfl, .free rfl rfl, .free rfl rfl, .free rfl rfl, .free rfl rfl, trivial⟩) (by rfl)
                refine .seq ?_
                refine .reg0 rfl (.op 0 rfl (mvV rfl) <| .op 0 rfl (addI rfl rfl) <| .op 0 rfl (mvV rfl) <| .op 0 rfl (addI rfl rfl) <| .op 0 rfl (faP fa33_0 rfl) <| .op 0 rfl (faP fa28_1 rfl) <| .op 0 rfl (stB (cs0 := [.val (.int .i64 x103), .val (.int .i64 x104), .rows (x105.map TSpace.cells), .val (.int .i64 x106), .val (.int .i64 x107), .own 3 x108.length, .own 4 x109.length, .own 5 x110.length]) (cs := [.val (.int .i64 (IntKind.i64.wrap (x106 + 1)))]) (cs1 := [.val (.int .i64 x103), .val (.int .i64 x104), .rows (x105.map TSpace.cells), .val (.int .i64 (IntKind.i64.wrap (x106 + 1))), .val (.int .i64 x107), .own 3 x108.length, .own 4 x109.length, .own 5 x110.length]) rfl rfl sz3 rfl ⟨Nat.le_of_ble_eq_true rfl, rfl⟩ rfl) <| .op 0 rfl (faP fa33_0 rfl) <| .op 0 rfl (faP fa28_2 rfl) <| .op 0 rfl (stB (cs0 := [.val (.int .i64 x103), .val (.int .i64 x104), .rows (x105.map TSpace.cells), .val (.int .i64 (IntKind.i64.wrap (x106 + 1))), .val (.int .i64 x107), .own 3 x108.length, .own 4 x109.length, .own 5 x110.length]) (cs := [.val (.int .i64 (IntKind.i64.wrap (x107 + 1)))]) (cs1 := [.val (.int .i64 x103), .val (.int .i64 x104), .rows (x105.map TSpace.cells), .val (.int .i64 (IntKind.i64.wrap (x106 + 1))), .val (.int .i64 (IntKind.i64.wrap (x107 + 1))), .own 3 x108.length, .own 4 x109.length, .own 5 x110.length]) rfl rfl sz3 rfl ⟨Nat.le_of_ble_eq_true rfl, rfl⟩ rfl) <| .nil0) ?_
                refine .seq ?_
                obtain ⟨g79_11, h⟩ := h
                obtain ⟨t79_23, g79_23, h⟩ := h
                refine .room 0 ?_
                refine .reg1 (e1 := listEnv [(2, .ptr 0 1 8 0 0), (8, .ptr 1 1 6 0 0), (10, .ptr 2 1 8 0 0), (11, .clo 21 [.ptr 2 1 8 0 0]), (12, .val (.int .i64 x59)), (13, .ptr 6 1 10 0 0), (14, .ptr 7 1 10 0 0), (15, .val (.int .i64 x120)), (16, .val (.int .i64 x106)), (17, .val (.int .i64 x107)), (76, .rows (a0.Rules.map TRule.cells)), (77, .val (.int .i64 (a0.Rules.length : Int))), (78, .val (.int .i64 x59))]) (H1 := [⟨8, [[.val (.int .i64 0), .val (.int .i64 0), .val (.slice none 0 0), .val (.int .i64 0), .val (.int .i64 0), .val (.slice none 0 0), .val (.slice none 0 0), .val (.slice none 0 0)]], 0, none⟩, ⟨6, [(TWeight.lit t20_2.1)], 0, none⟩, ⟨8, [[.val (.int .i64 t79_23.Pds.Space.Tag), .val (.int .i64 t79_23.Pds.Space.Dim), .rows (t79_23.Pds.Space.Parts.map TSpace.cells), .val (.int .i64 t79_23.Pds.States), .val (.int .i64 t79_23.Pds.Symbols), .own 3 t79_23.Pds.Rules.length, .own 4 t79_23.Rule.length, .own 5 t79_23.First.length]], 0, none⟩, ⟨10, t79_23.Pds.Rules.map TRule.cells, 0, none⟩, ⟨1, t79_23.Rule.map (cInt .i64), 0, none⟩, ⟨1, t79_23.First.map cBool, 0, none⟩, ⟨10, [(TRule.lit (rdl a0.Rules x59))], 0, none⟩, ⟨10, [[.val (.int .i64 x111), .val (.int .i64 x112), .val (.int .i64 ((rdl a0.Rules x59).Q)), .rows (x113.map (cInt .i64)), .val (.bool x114), .val (.int .i64 x115), .val (.int .u64 x116), .rows (x117.map (cInt .u64)), .rows (x118.map TCell.cells), .rows (x119.map TWeight.cells)]], 0, none⟩, ⟨1, [x107, (rdl (rdl a0.Rules x59).W (IntKind.i64.wrap (x120 - 1)))].map (cInt .i64), (max 0 ([x107, (rdl (rdl a0.Rules x59).W (IntKind.i64.wrap (x120 - 1)))].map (cInt .i64) : List (List PV)).length), none⟩]) rfl ?_ ?_
                · exact .drawM [(23, 128, .tuple []), (22, 127, .val (.bool (x120 == ((rdl a0.Rules x59).W.length : Int)))), (21, 126, .val (.int .i64 ((rdl a0.Rules x59).W.length : Int))), (20, 125, .rows ((rdl a0.Rules x59).W.map (cInt .i64))), (19, 124, .ptr 6 1 10 0 3), (18, 123, .val (.int .i64 x120)), (17, 122, .val (.int .i64 x59)), (16, 121, .agg [.val (.int .i64 x111), .val (.int .i64 x112), .val (.int .i64 x106), .own 8 ([x107, (rdl (rdl a0.Rules x59).W (IntKind.i64.wrap (x120 - 1)))].length), .val (.bool x114), .val (.int .i64 x115), .val (.int .u64 x116), .rows (x117.map (cInt .u64)), .rows (x118.map TCell.cells), .rows (x119.map TWeight.cells)]), (15, 120, .agg [.val (.bool x114), .val (.int .i64 x115), .val (.int .u64 x116), .rows (x117.map (cInt .u64)), .rows (x118.map TCell.cells), .rows (x119.map TWeight.cells)]), (14, 119, .ptr 7 1 10 0 4), (13, 118, .own 8 ([x107, (rdl (rdl a0.Rules x59).W (IntKind.i64.wrap (x120 - 1)))].length)), (12, 117, .val (.int .i64 (rdl (rdl a0.Rules x59).W (IntKind.i64.wrap (x120 - 1))))), (11, 116, .cptr ((cInt .i64) (rdl (rdl a0.Rules x59).W (IntKind.i64.wrap (x120 - 1)))) 0), (10, 115, .val (.int .i64 (IntKind.i64.wrap (x120 - 1)))), (9, 114, .val (.int .i64 x120)), (8, 113, .rows ((rdl a0.Rules x59).W.map (cInt .i64))), (7, 112, .ptr 6 1 10 0 3), (6, 111, .val (.int .i64 x107)), (5, 110, .val (.int .i64 x106)), (4, 109, .val (.int .i64 x112)), (3, 108, .ptr 7 1 10 0 1), (2, 107, .val (.int .i64 x111)), (1, 106, .ptr 7 1 10 0 0), (0, 105, .clo 21 [.ptr 2 1 8 0 0])] [(23, 8, ⟨1, [x107, (rdl (rdl a0.Rules x59).W (IntKind.i64.wrap (x120 - 1)))].map (cInt .i64), (max 0 ([x107, (rdl (rdl a0.Rules x59).W (IntKind.i64.wrap (x120 - 1)))].map (cInt .i64) : List (List PV)).length), none⟩), (23, 4, ⟨1, t79_23.Rule.map (cInt .i64), 0, none⟩), (23, 3, ⟨10, t79_23.Pds.Rules.map TRule.cells, 0, none⟩), (23, 5, ⟨1, t79_23.First.map cBool, 0, none⟩), (23, 2, ⟨8, [[.val (.int .i64 t79_23.Pds.Space.Tag), .val (.int .i64 t79_23.Pds.Space.Dim), .rows (t79_23.Pds.Space.Parts.map TSpace.cells), .val (.int .i64 t79_23.Pds.States), .val (.int .i64 t79_23.Pds.Symbols), .own 3 t79_23.Pds.Rules.length, .own 4 t79_23.Rule.length, .own 5 t79_23.First.length]], 0, none⟩), (13, 8, ⟨1, [x107, (rdl (rdl a0.Rules x59).W (IntKind.i64.wrap (x120 - 1)))].map (cInt .i64), 0, none⟩)] [[], [], [1], [], [3], [], [], [], [7], [], [9], [8, 7, 10, 9], [11, 8, 7, 10, 9], [6, 12, 11, 8, 7, 10, 9], [], [14], [2, 1, 4, 3, 5, 13, 6, 12, 11, 8, 7, 10, 9, 15, 14], [], [], [], [19], [20, 19], [18, 21, 20, 19], [0, 16, 2, 1, 4, 3, 5, 13, 6, 12, 11, 8, 7, 10, 9, 15, 14, 17, 22, 18, 21, 20, 19]] (by rfl) (by rfl) (by rfl) (by exact ⟨fun S hS hD hn => .one 0 hS hD hn rfl rfl (mvF rfl) rfl rfl rfl, fun S hS hD hn => .one 0 hS hD hn rfl rfl (faP fa51_0 rfl) rfl rfl rfl, fun S hS hD hn => .one 0 hS hD hn rfl rfl (ldP rfl sz3 ag3 rfl) rfl rfl rfl, fun S hS hD hn => .one 0 hS hD hn rfl rfl (faP fa51_1 rfl) rfl rfl rfl, fun S hS hD hn => .one 0 hS hD hn rfl rfl (ldP rfl sz3 ag3 rfl) rfl rfl rfl, fun S hS hD hn => .one 0 hS hD hn rfl rfl (mvV rfl) rfl rfl rfl, fun S hS hD hn => .one 0 hS hD hn rfl rfl (mvV rfl) rfl rfl rfl, fun S hS hD hn => .one 0 hS hD hn rfl rfl (faP fa51_3 rfl) rfl rfl rfl, fun S hS hD hn => .one 0 hS hD hn rfl rfl (ldP rfl sz30 ag30 rfl) rfl rfl rfl, fun S hS hD hn => .one 0 hS hD hn rfl rfl (mvV rfl) rfl rfl rfl, fun S hS hD hn => .one 0 hS hD hn rfl rfl (subI rfl rfl) rfl rfl rfl, fun S hS hD hn => .one 0 hS hD hn rfl rfl (ixR (l := (rdl a0.Rules x59).W) (lit := (cInt .i64)) sl30 rfl rfl (fun _ => rfl) g79_11.1 g79_11.2) rfl rfl rfl, fun S hS hD hn => .one 0 hS hD hn rfl rfl (ldC rfl sz3 ag3 rfl) rfl rfl rfl, fun S hS hD hn => .one 8 hS hD hn rfl rfl (bldL (s := 1) (cs := [.val (.int .i64 x107), .val (.int .i64 (rdl (rdl a0.Rules x59).W (IntKind.i64.wrap (x120 - 1))))]) un30 sz3 ze3 ⟨by decide, rfl, by decide⟩ rfl rfl rfl rfl) rfl rfl rfl, fun S hS hD hn => .one 0 hS hD hn rfl rfl (faP fa51_4 rfl) rfl rfl rfl, fun S hS hD hn => .one 0 hS hD hn rfl rfl (ldG rfl sz49 ag49 rfl) rfl rfl rfl, fun S hS hD hn => .one 0 hS hD hn rfl rfl (bldS (cs := [.val (.int .i64 x111), .val (.int .i64 x112), .val (.int .i64 x106), .own 8 ([x107, (rdl (rdl a0.Rules x59).W (IntKind.i64.wrap (x120 - 1)))].length), .val (.bool x114), .val (.int .i64 x115), .val (.int .u64 x116), .rows (x117.map (cInt .u64)), .rows (x118.map TCell.cells), .rows (x119.map TWeight.cells)]) ze51 pl51 rfl rfl) rfl rfl rfl, fun S hS hD hn => .one 0 hS hD hn rfl rfl (mvV rfl) rfl rfl rfl, fun S hS hD hn => .one 0 hS hD hn rfl rfl (mvV rfl) rfl rfl rfl, fun S hS hD hn => .one 0 hS hD hn rfl rfl (faP fa51_3 rfl) rfl rfl rfl, fun S hS hD hn => .one 0 hS hD hn rfl rfl (ldP rfl sz30 ag30 rfl) rfl rfl rfl, fun S hS hD hn => .one 0 hS hD hn rfl rfl (lnR (l := (rdl a0.Rules x59).W) sl30 rfl) rfl rfl rfl, fun S hS hD hn => .one 0 hS hD hn rfl rfl (eqI rfl rfl) rfl rfl rfl, fun S hS hD hn => .oneI hS hD hn rfl rfl (callee_of rfl go21 rfl) (.focus (args' := [.agg [.val (.int .i64 x111), .val (.int .i64 x112), .val (.int .i64 x106), .rows ([x107, (rdl (rdl a0.Rules x59).W (IntKind.i64.wrap (x120 - 1)))].map (cInt .i64)), .val (.bool x114), .val (.int .i64 x115), .val (.int .u64 x116), .rows (x117.map (cInt .u64)), .rows (x118.map TCell.cells), .rows (x119.map TWeight.cells)], .val (.int .i64 x59), .val (.bool (x120 == ((rdl a0.Rules x59).W.length : Int))), .ptr 0 1 8 0 0]) (H0 := [⟨8, [[.val (.int .i64 x103), .val (.int .i64 x104), .rows (x105.map TSpace.cells), .val (.int .i64 (IntKind.i64.wrap (x106 + 1))), .val (.int .i64 (IntKind.i64.wrap (x107 + 1))), .own 2 x108.length, .own 3 x109.length, .own 1 x110.length]], 0, none⟩, ⟨1, x110.map cBool, 0, none⟩, ⟨10, x108.map TRule.cells, 0, none⟩, ⟨1, x109.map (cInt .i64), 0, none⟩]) (Hc := [⟨8, [[.val (.int .i64 t79_23.Pds.Space.Tag), .val (.int .i64 t79_23.Pds.Space.Dim), .rows (t79_23.Pds.Space.Parts.map TSpace.cells), .val (.int .i64 t79_23.Pds.States), .val (.int .i64 t79_23.Pds.Symbols), .own 2 t79_23.Pds.Rules.length, .own 3 t79_23.Rule.length, .own 1 t79_23.First.length]], 0, none⟩, ⟨1, t79_23.First.map cBool, 0, none⟩, ⟨10, t79_23.Pds.Rules.map TRule.cells, 0, none⟩, ⟨1, t79_23.Rule.map (cInt .i64), 0, none⟩]) (Hd := [⟨8, [[.val (.int .i64 t79_23.Pds.Space.Tag), .val (.int .i64 t79_23.Pds.Space.Dim), .rows (t79_23.Pds.Space.Parts.map TSpace.cells), .val (.int .i64 t79_23.Pds.States), .val (.int .i64 t79_23.Pds.Symbols), .own 3 t79_23.Pds.Rules.length, .own 4 t79_23.Rule.length, .own 5 t79_23.First.length]], 0, none⟩, ⟨1, t79_23.First.map cBool, 0, none⟩, ⟨10, t79_23.Pds.Rules.map TRule.cells, 0, none⟩, ⟨1, t79_23.Rule.map (cInt .i64), 0, none⟩]) [2, 5, 3, 4] [8] [] true (.cons (cAgg (.cons (.free rfl rfl) <| .cons (.free rfl rfl) <| .cons (.free rfl rfl) <| .cons (cFixO (l := [x107, (rdl (rdl a0.Rules x59).W (IntKind.i64.wrap (x120 - 1)))]) sl30 rfl rfl rfl rfl) <| .cons (.free rfl rfl) <| .cons (.free rfl rfl) <| .cons (.free rfl rfl) <| .cons (.free rfl rfl) <| .cons (.free rfl rfl) <| .cons (.free rfl rfl) <| .nil)) <| .cons (.free rfl rfl) <| .cons (.free rfl rfl) <| .cons (.ptr rfl) <| .nil) (HConvL.heap ⟨⟨_, rfl, bcBox (.cons (.free rfl rfl) <| .cons (.free rfl rfl) <| .cons (.free rfl rfl) <| .cons (.free rfl rfl) <| .cons (.free rfl rfl) <| .cons (.own rfl) <| .cons (.own rfl) <| .cons (.own rfl) <| .nil)⟩, ⟨_, rfl, bcRow (l := x110) sl31 (Nat.le_refl _) rfl⟩, ⟨_, rfl, bcRow (l := x108) sl26 (Nat.le_refl _) rfl⟩, ⟨_, rfl, bcRow (l := x109) sl30 (Nat.le_refl _) rfl⟩, trivial⟩) (by decide) rfl rfl (pds_Short_1.D g79_23) (.free rfl rfl) (.cons (bcBox (.cons (.free rfl rfl) <| .cons (.free rfl rfl) <| .cons (.free rfl rfl) <| .cons (.free rfl rfl) <| .cons (.free rfl rfl) <| .cons (.own rfl) <| .cons (.own rfl) <| .cons (.own rfl) <| .nil)) <| .cons (bcRow (l := t79_23.First) sl31 (Nat.le_refl _) rfl) <| .cons (bcRow (l := t79_23.Pds.Rules) sl26 (Nat.le_refl _) rfl) <| .cons (bcRow (l := t79_23.Rule) sl30 (Nat.le_refl _) rfl) <| .nil) rfl (.inl rfl) rfl) rfl rfl rfl, trivial⟩) _ (by exact ⟨.ptr rfl, .ptr rfl, .ptr rfl, cClo (.cons (.ptr rfl) <| .nil), .free rfl rfl, .ptr rfl, .ptr rfl, .free rfl rfl, .free rfl rfl, .free rfl rfl, .free rfl rfl, .free rfl rfl, .free rfl rfl, trivial⟩) (by rfl)
                obtain ⟨g80_8, h⟩ := h
                refine .reg1 (e1 := listEnv [(2, .ptr 0 1 8 0 0), (8, .ptr 1 1 6 0 0), (10, .ptr 2 1 8 0 0), (11, .clo 21 [.ptr 2 1 8 0 0]), (12, .val (.int .i64 x59)), (13, .ptr 6 1 10 0 0), (14, .ptr 7 1 10 0 0), (15, .val (.int .i64 x120)), (76, .rows (a0.Rules.map TRule.cells)), (77, .val (.int .i64 (a0.Rules.length : Int))), (78, .val (.int .i64 x59))]) (H1 := [⟨8, [[.val (.int .i64 0), .val (.int .i64 0), .val (.slice none 0 0), .val (.int .i64 0), .val (.int .i64 0), .val (.slice none 0 0), .val (.slice none 0 0), .val (.slice none 0 0)]], 0, none⟩, ⟨6, [(TWeight.lit t20_2.1)], 0, none⟩, ⟨8, [[.val (.int .i64 t79_23.Pds.Space.Tag), .val (.int .i64 t79_23.Pds.Space.Dim), .rows (t79_23.Pds.Space.Parts.map TSpace.cells), .val (.int .i64 t79_23.Pds.States), .val (.int .i64 t79_23.Pds.Symbols), .own 3 t79_23.Pds.Rules.length, .own 4 t79_23.Rule.length, .own 5 t79_23.First.length]], 0, none⟩, ⟨10, t79_23.Pds.Rules.map TRule.cells, 0, none⟩, ⟨1, t79_23.Rule.map (cInt .i64), 0, none⟩, ⟨1, t79_23.First.map cBool, 0, none⟩, ⟨10, [(TRule.lit (rdl a0.Rules x59))], 0, none⟩, ⟨10, [[.val (.int .i64 x106), .val (.int .i64 x107), .val (.int .i64 ((rdl a0.Rules x59).Q)), .rows ((cutl (rdl a0.Rules x59).W 0 (IntKind.i64.wrap (x120 - 1))).map (cInt .i64)), .val (.bool t20_2.1.Zero), .val (.int .i64 t20_2.1.Cost), .val (.int .u64 t20_2.1.Facts.Gen), .rows (t20_2.1.Facts.Rows.map (cInt .u64)), .rows (t20_2.1.Cells.map TCell.cells), .rows (t20_2.1.Parts.map TWeight.cells)]], 0, none⟩, ⟨1, [x107, (rdl (rdl a0.Rules x59).W (IntKind.i64.wrap (x120 - 1)))].map (cInt .i64), (max 0 ([x107, (rdl (rdl a0.Rules x59).W (IntKind.i64.wrap (x120 - 1)))].map (cInt .i64) : List (List PV)).length), none⟩]) rfl ?_ ?_
                · exact .drawM [(10, 139, .agg [.val (.int .i64 x106), .val (.int .i64 x107), .val (.int .i64 ((rdl a0.Rules x59).Q)), .rows ((cutl (rdl a0.Rules x59).W 0 (IntKind.i64.wrap (x120 - 1))).map (cInt .i64)), .val (.bool t20_2.1.Zero), .val (.int .i64 t20_2.1.Cost), .val (.int .u64 t20_2.1.Facts.Gen), .rows (t20_2.1.Facts.Rows.map (cInt .u64)), .rows (t20_2.1.Cells.map TCell.cells), .rows (t20_2.1.Parts.map TWeight.cells)]), (9, 138, .agg (TWeight.lit t20_2.1)), (8, 137, .rows ((cutl (rdl a0.Rules x59).W 0 (IntKind.i64.wrap (x120 - 1))).map (cInt .i64))), (7, 136, .val (.int .i64 (IntKind.i64.wrap (x120 - 1)))), (6, 135, .val (.int .i64 x120)), (5, 134, .rows ((rdl a0.Rules x59).W.map (cInt .i64))), (4, 133, .ptr 6 1 10 0 3), (3, 132, .val (.int .i64 ((rdl a0.Rules x59).Q))), (2, 131, .ptr 6 1 10 0 2), (1, 130, .val (.int .i64 x107)), (0, 129, .val (.int .i64 x106))] [(11, 7, ⟨10, [[.val (.int .i64 x106), .val (.int .i64 x107), .val (.int .i64 ((rdl a0.Rules x59).Q)), .rows ((cutl (rdl a0.Rules x59).W 0 (IntKind.i64.wrap (x120 - 1))).map (cInt .i64)), .val (.bool t20_2.1.Zero), .val (.int .i64 t20_2.1.Cost), .val (.int .u64 t20_2.1.Facts.Gen), .rows (t20_2.1.Facts.Rows.map (cInt .u64)), .rows (t20_2.1.Cells.map TCell.cells), .rows (t20_2.1.Parts.map TWeight.cells)]], 0, none⟩)] [[], [], [], [2], [], [4], [], [6], [5, 4, 7, 6], [], [0, 1, 3, 2, 8, 5, 4, 7, 6, 9], [10, 0, 1, 3, 2, 8, 5, 4, 7, 6, 9]] (by rfl) (by rfl) (by rfl) (by exact ⟨fun S hS hD hn => .one 0 hS hD hn rfl rfl (mvV rfl) rfl rfl rfl, fun S hS hD hn => .one 0 hS hD hn rfl rfl (mvV rfl) rfl rfl rfl, fun S hS hD hn => .one 0 hS hD hn rfl rfl (faP fa51_2 rfl) rfl rfl rfl, fun S hS hD hn => .one 0 hS hD hn rfl rfl (ldP rfl sz3 ag3 rfl) rfl rfl rfl, fun S hS hD hn => .one 0 hS hD hn rfl rfl (faP fa51_3 rfl) rfl rfl rfl, fun S hS hD hn => .one 0 hS hD hn rfl rfl (ldP rfl sz30 ag30 rfl) rfl rfl rfl, fun S hS hD hn => .one 0 hS hD hn rfl rfl (mvV rfl) rfl rfl rfl, fun S hS hD hn => .one 0 hS hD hn rfl rfl (subI rfl rfl) rfl rfl rfl, fun S hS hD hn => .one 0 hS hD hn rfl rfl (slR (l := (rdl a0.Rules x59).W) (h := Int.toNat (IntKind.i64.wrap (x120 - 1))) (v := 0) sl30 rfl rfl (bound_some rfl g80_8.j0) (Nat.zero_le _) (cut_le2 g80_8)) rfl rfl rfl, fun S hS hD hn => .one 0 hS hD hn rfl rfl (ldG rfl sz49 ag49 rfl) rfl rfl rfl, fun S hS hD hn => .one 0 hS hD hn rfl rfl (bldS (cs := [.val (.int .i64 x106), .val (.int .i64 x107), .val (.int .i64 ((rdl a0.Rules x59).Q)), .rows ((cutl (rdl a0.Rules x59).W 0 (IntKind.i64.wrap (x120 - 1))).map (cInt .i64)), .val (.bool t20_2.1.Zero), .val (.int .i64 t20_2.1.Cost), .val (.int .u64 t20_2.1.Facts.Gen), .rows (t20_2.1.Facts.Rows.map (cInt .u64)), .rows (t20_2.1.Cells.map TCell.cells), .rows (t20_2.1.Parts.map TWeight.cells)]) ze51 pl51 rfl rfl) rfl rfl rfl, fun S hS hD hn => .one0 0 rfl rfl (stB (cs0 := [.val (.int .i64 x111), .val (.int .i64 x112), .val (.int .i64 ((rdl a0.Rules x59).Q)), .rows (x113.map (cInt .i64)), .val (.bool x114), .val (.int .i64 x115), .val (.int .u64 x116), .rows (x117.map (cInt .u64)), .rows (x118.map TCell.cells), .rows (x119.map TWeight.cells)]) (cs := [.val (.int .i64 x106), .val (.int .i64 x107), .val (.int .i64 ((rdl a0.Rules x59).Q)), .rows ((cutl (rdl a0.Rules x59).W 0 (IntKind.i64.wrap (x120 - 1))).map (cInt .i64)), .val (.bool t20_2.1.Zero), .val (.int .i64 t20_2.1.Cost), .val (.int .u64 t20_2.1.Facts.Gen), .rows (t20_2.1.Facts.Rows.map (cInt .u64)), .rows (t20_2.1.Cells.map TCell.cells), .rows (t20_2.1.Parts.map TWeight.cells)]) (cs1 := [.val (.int .i64 x106), .val (.int .i64 x107), .val (.int .i64 ((rdl a0.Rules x59).Q)), .rows ((cutl (rdl a0.Rules x59).W 0 (IntKind.i64.wrap (x120 - 1))).map (cInt .i64)), .val (.bool t20_2.1.Zero), .val (.int .i64 t20_2.1.Cost), .val (.int .u64 t20_2.1.Facts.Gen), .rows (t20_2.1.Facts.Rows.map (cInt .u64)), .rows (t20_2.1.Cells.map TCell.cells), .rows (t20_2.1.Parts.map TWeight.cells)]) rfl rfl sz51 rfl ⟨Nat.le_of_ble_eq_true rfl, rfl⟩ rfl) (drawE_other _ _ _ _ rfl) rfl, trivial⟩) _ (by exact ⟨.ptr rfl, .ptr rfl, .ptr rfl, cClo (.cons (.ptr rfl) <| .nil), .free rfl rfl, .ptr rfl, .ptr rfl, .free rfl rfl, .free rfl rfl, .free rfl rfl, .free rfl rfl, trivial⟩) (by rfl)
                refine .inBlock ?_
                refine .reg0 rfl (.op 0 rfl (mvV rfl) <| .op 0 rfl (subI rfl rfl) <| .op 0 rfl (asV rfl) <| .nil0) ?_
                refine .keepL [0, 1, 2, 3, 4, 5, 6, 7] [(2, .ptr 0 1 8 0 0), (8, .ptr 1 1 6 0 0), (10, .ptr 2 1 8 0 0), (11, .clo 21 [.ptr 2 1 8 0 0]), (12, .val (.int .i64 x59)), (13, .ptr 6 1 10 0 0), (14, .ptr 7 1 10 0 0), (15, .val (.int .i64 (IntKind.i64.wrap (x120 - 1)))), (76, .rows (a0.Rules.map TRule.cells)), (77, .val (.int .i64 (a0.Rules.length : Int))), (78, .val (.int .i64 x59))] [⟨8, [[.val (.int .i64 0), .val (.int .i64 0), .val (.slice none 0 0), .val (.int .i64 0), .val (.int .i64 0), .val (.slice none 0 0), .val (.slice none 0 0), .val (.slice none 0 0)]], 0, none⟩, ⟨6, [(TWeight.lit t20_2.1)], 0, none⟩, ⟨8, [[.val (.int .i64 t79_23.Pds.Space.Tag), .val (.int .i64 t79_23.Pds.Space.Dim), .rows (t79_23.Pds.Space.Parts.map TSpace.cells), .val (.int .i64 t79_23.Pds.States), .val (.int .i64 t79_23.Pds.Symbols), .own 3 t79_23.Pds.Rules.length, .own 4 t79_23.Rule.length, .own 5 t79_23.First.length]], 0, none⟩, ⟨10, t79_23.Pds.Rules.map TRule.cells, 0, none⟩, ⟨1, t79_23.Rule.map (cInt .i64), 0, none⟩, ⟨1, t79_23.First.map cBool, 0, none⟩, ⟨10, [(TRule.lit (rdl a0.Rules x59))], 0, none⟩, ⟨10, [[.val (.int .i64 x106), .val (.int .i64 x107), .val (.int .i64 ((rdl a0.Rules x59).Q)), .rows ((cutl (rdl a0.Rules x59).W 0 (IntKind.i64.wrap (x120 - 1))).map (cInt .i64)), .val (.bool t20_2.1.Zero), .val (.int .i64 t20_2.1.Cost), .val (.int .u64 t20_2.1.Facts.Gen), .rows (t20_2.1.Facts.Rows.map (cInt .u64)), .rows (t20_2.1.Cells.map TCell.cells), .rows (t20_2.1.Parts.map TWeight.cells)]], 0, none⟩] (by decide) (by decide) ⟨.ptr rfl, .ptr rfl, .ptr rfl, cClo (.cons (.ptr rfl) <| .nil), .free rfl rfl, .ptr rfl, .ptr rfl, .free rfl rfl, .free rfl rfl, .free rfl rfl, .free rfl rfl, trivial⟩ ⟨⟨_, rfl, bcBox (all2_free rfl)⟩, ⟨_, rfl, bcBox (all2_free rfl)⟩, ⟨_, rfl, bcBox (.cons (.free rfl rfl) <| .cons (.free rfl rfl) <| .cons (.free rfl rfl) <| .cons (.free rfl rfl) <| .cons (.free rfl rfl) <| .cons (.own rfl) <| .cons (.own rfl) <| .cons (.own rfl) <| .nil)⟩, ⟨_, rfl, bcRow (l := t79_23.Pds.Rules) sl26 (Nat.le_refl _) rfl⟩, ⟨_, rfl, bcRow (l := t79_23.Rule) sl30 (Nat.le_refl _) rfl⟩, ⟨_, rfl, bcRow (l := t79_23.First) sl31 (Nat.le_refl _) rfl⟩, ⟨_, rfl, bcBox (all2_free rfl)⟩, ⟨_, rfl, bcBox (all2_free rfl)⟩, trivial⟩ ?_
                exact hn3 _ h
              · rw [if_neg c17] at h
                refine .condF rfl (decide_eq_false c17) ?_
                refine .exit rfl ?_
                refine .keepL [0, 1, 2, 3, 4, 5, 6, 7] [(2, .ptr 0 1 8 0 0), (8, .ptr 1 1 6 0 0), (10, .ptr 2 1 8 0 0), (11, .clo 21 [.ptr 2 1 8 0 0]), (12, .val (.int .i64 x59)), (13, .ptr 6 1 10 0 0), (14, .ptr 7 1 10 0 0), (76, .rows (a0.Rules.map TRule.cells)), (77, .val (.int .i64 (a0.Rules.length : Int))), (78, .val (.int .i64 x59))] [⟨8, [[.val (.int .i64 0), .val (.int .i64 0), .val (.slice none 0 0), .val (.int .i64 0), .val (.int .i64 0), .val (.slice none 0 0), .val (.slice none 0 0), .val (.slice none 0 0)]], 0, none⟩, ⟨6, [(TWeight.lit t20_2.1)], 0, none⟩, ⟨8, [[.val (.int .i64 x103), .val (.int .i64 x104), .rows (x105.map TSpace.cells), .val (.int .i64 x106), .val (.int .i64 x107), .own 3 x108.length, .own 4 x109.length, .own 5 x110.length]], 0, none⟩, ⟨10, x108.map TRule.cells, 0, none⟩, ⟨1, x109.map (cInt .i64), 0, none⟩, ⟨1, x110.map cBool, 0, none⟩, ⟨10, [(TRule.lit (rdl a0.Rules x59))], 0, none⟩, ⟨10, [[.val (.int .i64 x111), .val (.int .i64 x112), .val (.int .i64 ((rdl a0.Rules x59).Q)), .rows (x113.map (cInt .i64)), .val (.bool x114), .val (.int .i64 x115), .val (.int .u64 x116), .rows (x117.map (cInt .u64)), .rows (x118.map TCell.cells), .rows (x119.map TWeight.cells)]], 0, none⟩] (by decide) (by decide) ⟨.ptr rfl, .ptr rfl, .ptr rfl, cClo (.cons (.ptr rfl) <| .nil), .free rfl rfl, .ptr rfl, .ptr rfl, .free rfl rfl, .free rfl rfl, .free rfl rfl, trivial⟩ ⟨⟨_, rfl, bcBox (all2_free rfl)⟩, ⟨_, rfl, bcBox (all2_free rfl)⟩, ⟨_, rfl, bcBox (.cons (.free rfl rfl) <| .cons (.free rfl rfl) <| .cons (.free rfl rfl) <| .cons (.free rfl rfl) <| .cons (.free rfl rfl) <| .cons (.own rfl) <| .cons (.own rfl) <| .cons (.own rfl) <| .nil)⟩, ⟨_, rfl, bcRow (l := x108) sl26 (Nat.le_refl _) rfl⟩, ⟨_, rfl, bcRow (l := x109) sl30 (Nat.le_refl _) rfl⟩, ⟨_, rfl, bcRow (l := x110) sl31 (Nat.le_refl _) rfl⟩, ⟨_, rfl, bcBox (all2_free rfl)⟩, ⟨_, rfl, bcBox (all2_free rfl)⟩, trivial⟩ ?_
                exact hx3 _ h
          · rw [if_neg c14] at h
            refine .condF rfl (decide_eq_false c14) ?_
            refine .exit rfl ?_
            refine .keepL [0, 2, 3, 4, 5] [(2, .ptr 0 1 8 0 0), (10, .ptr 1 1 8 0 0)] [⟨8, [[.val (.int .i64 0), .val (.int .i64 0), .val (.slice none 0 0), .val (.int .i64 0), .val (.int .i64 0), .val (.slice none 0 0), .val (.slice none 0 0), .val (.slice none 0 0)]], 0, none⟩, ⟨8, [[.val (.int .i64 x51), .val (.int .i64 x52), .rows (x53.map TSpace.cells), .val (.int .i64 x54), .val (.int .i64 x55), .own 2 x56.length, .own 3 x57.length, .own 4 x58.length]], 0, none⟩, ⟨10, x56.map TRule.cells, 0, none⟩, ⟨1, x57.map (cInt .i64), 0, none⟩, ⟨1, x58.map cBool, 0, none⟩] (by decide) (by decide) ⟨.ptr rfl, .ptr rfl, trivial⟩ ⟨⟨_, rfl, bcBox (all2_free rfl)⟩, ⟨_, rfl, bcBox (.cons (.free rfl rfl) <| .cons (.free rfl rfl) <| .cons (.free rfl rfl) <| .cons (.free rfl rfl) <| .cons (.free rfl rfl) <| .cons (.own rfl) <| .cons (.own rfl) <| .cons (.own rfl) <| .nil)⟩, ⟨_, rfl, bcRow (l := x56) sl26 (Nat.le_refl _) rfl⟩, ⟨_, rfl, bcRow (l := x57) sl30 (Nat.le_refl _) rfl⟩, ⟨_, rfl, bcRow (l := x58) sl31 (Nat.le_refl _) rfl⟩, trivial⟩ ?_
            exact hx2 _ h
    · rintro r_ rfl
      exact h
    · rintro ⟨x1, x2⟩ z1 h hn1 hx1 hr1
      dsimp only [pds_Short.b1] at h
      refine .seq ?_
      refine .reg0 rfl (.op 0 rfl (ltI rfl rfl) <| .nil0) ?_
      refine .seq ?_
      by_cases c4 : x2 < (a0.Rules.length : Int)
      · rw [if_pos c4] at h
        refine .condT rfl (decide_eq_true c4) ?_
        refine .skip ?_
        refine .seq ?_
        refine .block ?_
        refine .seq ?_
        obtain ⟨g15_0, h⟩ := h
        refine .room 0 ?_
        refine .reg0 rfl (.op 0 rfl (ixR (l := a0.Rules) (lit := TRule.lit) sl26 rfl rfl (fun _ => rfl) g15_0.1 g15_0.2) <| .op 0 rfl (ldCG rfl sz51 ag51 rfl) <| .op 2 rfl (alP (s := 10) ze51 ⟨rfl, by decide, rfl⟩ rfl) <| .op 0 rfl (stB (cs0 := [.val (.int .i64 0), .val (.int .i64 0), .val (.int .i64 0), .val (.slice none 0 0), .val (.bool false), .val (.int .i64 0), .val (.int .u64 0), .val (.slice none 0 0), .val (.slice none 0 0), .val (.slice none 0 0)]) (cs := (TRule.lit (rdl a0.Rules x2))) (cs1 := (TRule.lit (rdl a0.Rules x2))) rfl rfl sz51 rfl ⟨Nat.le_of_ble_eq_true rfl, rfl⟩ rfl) <| .nil0) ?_
        refine .reg0 rfl (.op 0 rfl (mvV rfl) <| .op 0 rfl (faP fa51_3 rfl) <| .op 0 rfl (ldP rfl sz30 ag30 rfl) <| .op 0 rfl (lnR (l := (rdl a0.Rules x2).W) sl30 rfl) <| .op 0 rfl (subI rfl rfl) <| .op 0 rfl (maxI rfl rfl) <| .op 0 rfl (addI rfl rfl) <| .op 0 rfl (asV rfl) <| .nil0) ?_
        refine .inBlock ?_
        refine .reg0 rfl (.op 0 rfl (addI rfl rfl) <| .op 0 rfl (mvV rfl) <| .nil0) ?_
        refine .keepL [0, 1] [(1, .ptr 0 1 6 0 0), (2, .ptr 1 1 8 0 0), (5, .val (.int .i64 (IntKind.i64.wrap (x1 + (if 0 > (IntKind.i64.wrap (((rdl a0.Rules x2).W.length : Int) - 2)) then 0 else (IntKind.i64.wrap (((rdl a0.Rules x2).W.length : Int) - 2))))))), (25, .rows (a0.Rules.map TRule.cells)), (26, .val (.int .i64 (a0.Rules.length : Int))), (27, .val (.int .i64 (IntKind.i64.wrap (x2 + 1))))] [⟨6, [(TPds.lit a0)], 0, none⟩, ⟨8, [[.val (.int .i64 0), .val (.int .i64 0), .val (.slice none 0 0), .val (.int .i64 0), .val (.int .i64 0), .val (.slice none 0 0), .val (.slice none 0 0), .val (.slice none 0 0)]], 0, none⟩] (by decide) (by decide) ⟨.ptr rfl, .ptr rfl, .free rfl rfl, .free rfl rfl, .free rfl rfl, .free rfl rfl, trivial⟩ ⟨⟨_, rfl, bcBox (all2_free rfl)⟩, ⟨_, rfl, bcBox (all2_free rfl)⟩, trivial⟩ ?_
        exact hn1 _ h
      · rw [if_neg c4] at h
        refine .condF rfl (decide_eq_false c4) ?_
        refine .exit rfl ?_
        refine .keepL [0, 1] [(1, .ptr 0 1 6 0 0), (2, .ptr 1 1 8 0 0), (5, .val (.int .i64 x1))] [⟨6, [(TPds.lit a0)], 0, none⟩, ⟨8, [[.val (.int .i64 0), .val (.int .i64 0), .val (.slice none 0 0), .val (.int .i64 0), .val (.int .i64 0), .val (.slice none 0 0), .val (.slice none 0 0), .val (.slice none 0 0)]], 0, none⟩] (by decide) (by decide) ⟨.ptr rfl, .ptr rfl, .free rfl rfl, trivial⟩ ⟨⟨_, rfl, bcBox (all2_free rfl)⟩, ⟨_, rfl, bcBox (all2_free rfl)⟩, trivial⟩ ?_
        exact hx1 _ h
  · rw [if_neg c1] at h
    refine .condT rfl (bne_iff_ne.mpr c1) ?_
    refine .seq ?_
    refine .reg0 rfl (.op 0 rfl (bldS (cs := [.val (.int .i64 0), .val (.int .i64 0), .val (.slice none 0 0), .val (.int .i64 0), .val (.int .i64 0), .val (.slice none 0 0), .val (.slice none 0 0), .val (.slice none 0 0)]) ze33 pl33 rfl rfl) <| .op 0 rfl (mvV rfl) <| .op 0 rfl (stB (cs0 := [.val (.int .i64 0), .val (.int .i64 0), .val (.slice none 0 0), .val (.int .i64 0), .val (.int .i64 0), .val (.slice none 0 0), .val (.slice none 0 0), .val (.slice none 0 0)]) (cs := [.val (.int .i64 0), .val (.int .i64 0), .val (.slice none 0 0), .val (.int .i64 0), .val (.int .i64 0), .val (.slice none 0 0), .val (.slice none 0 0), .val (.slice none 0 0)]) (cs1 := [.val (.int .i64 0), .val (.int .i64 0), .val (.slice none 0 0), .val (.int .i64 0), .val (.int .i64 0), .val (.slice none 0 0), .val (.slice none 0 0), .val (.slice none 0 0)]) rfl rfl sz33 rfl ⟨Nat.le_of_ble_eq_true rfl, rfl⟩ rfl) <| .op 0 rfl (asV rfl) <| .nil0) ?_
    replace h := h.symm
    subst h
    refine .keepL [] [(2, .cptr [.val (.int .i64 0), .val (.int .i64 0), .rows (([] : List TSpace).map TSpace.cells), .val (.int .i64 0), .val (.int .i64 0), .rows (([] : List TRule).map TRule.cells), .rows (([] : List Int).map (cInt .i64)), .rows (([] : List Bool).map cBool)] 0), (3, .val (.int .i64 t2_1))] [] (by decide) (by decide) ⟨cFixP rfl rfl (.cons (.free rfl rfl) <| .cons (.free rfl rfl) <| .cons (.nil) <| .cons (.free rfl rfl) <| .cons (.free rfl rfl) <| .cons (.nil) <| .cons (.nil) <| .cons (.nil) <| .nil), .free rfl rfl, trivial⟩ trivial ?_
    exact .ret rfl
def r05_Space.b1 (self26 : TSpace → Int → Prop) (a0 : TSpace) : (Bool × Int) → Rnd ((Bool × Int)) Bool Int → Prop := fun (x2, x3) z1 => if ((decide (x3 < (a0.Parts.length : Int))) && x2) = true then (((InR x3 a0.Parts.length)) ∧ (¬ ((rdl a0.Parts x3).Tag = 5) → (InR x3 a0.Parts.length)) ∧ ∃ t30_13 : Int, (¬ ((rdl a0.Parts x3).Tag = 5) → self26 (rdl a0.Parts x3) t30_13) ∧ z1 = .next (((!((rdl a0.Parts x3).Tag == 5)) && (t30_13 == 0)), (IntKind.i64.wrap (x3 + 1)))) else (z1 = .exit x2)
def r05_Space.j1 (self26 : TSpace → Int → Prop) (a0 : TSpace) : Bool → Int → Prop := fun x1 r => if x1 = true then (if ((decide (a0.Dim ≥ 0)) && ((decide (a0.Dim ≤ 64)) && ((a0.Parts.length : Int) == 0))) = true then (r = 0) else (r = 50)) else (if a0.Tag = 5 then (∃ o1 : Fin Bool Int, Loop (r05_Space.b1 self26 a0) (((a0.Dim == 0) && ((a0.Parts.length : Int) == 2)), 0) o1 ∧ o1.on (fun x4 => if x4 = true then (r = 0) else (r = 50)) (fun r_ => r = r_)) else (r = 50))
def r05_Space.step (self26 : TSpace → Int → Prop) (a0 : TSpace) (r : Int) : Prop :=
  if a0.Tag = 1 then (if ((a0.Dim == 0) && ((a0.Parts.length : Int) == 0)) = true then (r = 0) else (r = 50)) else (if a0.Tag = 2 then (if ((decide (a0.Dim ≥ 0)) && ((decide (a0.Dim ≤ 1048576)) && ((a0.Parts.length : Int) == 0))) = true then (r = 0) else (r = 50)) else (if a0.Tag = 3 then (r05_Space.j1 self26 a0 (a0.Tag == 3) r) else (r05_Space.j1 self26 a0 (a0.Tag == 4) r)))
theorem r05_Space.stepD {self26 : TSpace → Int → Prop} {a0 : TSpace} (hs26 : ∀ z0_ r_, self26 z0_ r_ → D Try.prog X (.callH 26 [.agg (TSpace.lit z0_)] [] (.val (.int .i64 r_)) [])) {r : Int} (h : r05_Space.step self26 a0 r) : D Try.prog X (.callH 26 [.agg (TSpace.lit a0)] [] (.val (.int .i64 r)) []) := by
  unfold r05_Space.step at h
  refine .enter 90 0 fn26 rfl rfl rfl ?_
  refine .seq ?_
  refine .room 0 ?_
  refine .reg0 rfl (.op 0 rfl (bxP (s := 3) (cs := (TSpace.lit a0)) rfl ⟨rfl, by decide, rfl⟩ rfl) <| .op 0 rfl (asV rfl) <| .nil0) ?_
  refine .seq ?_
  refine .reg0 rfl (.op 0 rfl (asV rfl) <| .nil0) ?_
  refine .seq ?_
  refine .seq ?_
  refine .reg0 rfl (.op 0 rfl (faP fa25_0 rfl) <| .op 0 rfl (ldP rfl sz22 ag22 rfl) <| .nil0) ?_
  refine .block ?_
  refine .seq ?_
  refine .reg0 rfl (.op 0 rfl (eqI rfl rfl) <| .op 0 rfl (asV rfl) <| .nil0) ?_
  by_cases c1 : a0.Tag = 1
  · rw [if_pos c1] at h
    refine .condT rfl (beq_iff_eq.mpr c1) ?_
    refine .reg0 (e1 := listEnv [(3, .val (.bool ((a0.Dim == 0) && ((a0.Parts.length : Int) == 0))))]) (H1 := [⟨3, [(TSpace.lit a0)], 0, none⟩]) rfl ?_ ?_
    · by_cases c2 : a0.Dim = 0
      · exact (.op 0 rfl (faP fa25_1 rfl) <| .op 0 rfl (ldP rfl sz3 ag3 rfl) <| .op 0 rfl (eqI rfl rfl) <| .op 0 rfl (mvV rfl) <| .op 0 (gT rfl rfl rfl (beq_iff_eq.mpr c2)) (faP fa25_2 rfl) <| .op 0 (gT rfl rfl rfl (beq_iff_eq.mpr c2)) (ldP rfl sz23 ag23 rfl) <| .op 0 (gT rfl rfl rfl (beq_iff_eq.mpr c2)) (lnR (l := a0.Parts) sl23 rfl) <| .op 0 (gT rfl rfl rfl (beq_iff_eq.mpr c2)) (eqI rfl rfl) <| .op 0 rfl (pkTV rfl (beq_iff_eq.mpr c2) rfl) <| .op 0 rfl (asV rfl) <| .nilL _ ⟨cB rfl (mAndT (beq_iff_eq.mpr c2) rfl), trivial⟩)
      · exact (.op 0 rfl (faP fa25_1 rfl) <| .op 0 rfl (ldP rfl sz3 ag3 rfl) <| .op 0 rfl (eqI rfl rfl) <| .op 0 rfl (mvV rfl) <| .no (gF rfl rfl rfl (beq_eq_false_iff_ne.mpr c2)) <| .no (gF rfl rfl rfl (beq_eq_false_iff_ne.mpr c2)) <| .no (gF rfl rfl rfl (beq_eq_false_iff_ne.mpr c2)) <| .no (gF rfl rfl rfl (beq_eq_false_iff_ne.mpr c2)) <| .op 0 rfl (pkFV rfl (beq_eq_false_iff_ne.mpr c2) rfl) <| .op 0 rfl (asV rfl) <| .nilL _ ⟨cB rfl (mAndF (beq_eq_false_iff_ne.mpr c2)), trivial⟩)
    refine .inBlock ?_
    refine .seq ?_
    refine .seq ?_
    refine .reg0 rfl (.op 0 rfl (mvV rfl) <| .op 0 rfl (notB rfl) <| .nil0) ?_
    by_cases c3 : ((a0.Dim == 0) && ((a0.Parts.length : Int) == 0)) = true
    · rw [if_pos c3] at h
      refine .condF rfl (bnotF c3) ?_
      refine .skip ?_
      refine .seq ?_
      refine .reg0 rfl (.op 0 rfl (asV rfl) <| .nil0) ?_
      replace h := h.symm
      subst h
      refine .keepL [] [(2, .val (.int .i64 0))] [] (by decide) (by decide) ⟨.free rfl rfl, trivial⟩ trivial ?_
      exact .ret rfl
    · rw [if_neg c3] at h
      refine .condT rfl (bnotT (Bool.eq_false_iff.mpr c3)) ?_
      refine .seq ?_
      refine .reg0 rfl (.op 0 rfl (asV rfl) <| .nil0) ?_
      replace h := h.symm
      subst h
      refine .keepL [] [(2, .val (.int .i64 50))] [] (by decide) (by decide) ⟨.free rfl rfl, trivial⟩ trivial ?_
      exact .ret rfl
  · rw [if_neg c1] at h
    refine .condF rfl (beq_eq_false_iff_ne.mpr c1) ?_
    refine .seq ?_
    refine .reg0 rfl (.op 0 rfl (eqI rfl rfl) <| .op 0 rfl (asV rfl) <| .nil0) ?_
    by_cases c4 : a0.Tag = 2
    · rw [if_pos c4] at h
      refine .condT rfl (beq_iff_eq.mpr c4) ?_
      refine .reg0 (e1 := listEnv [(3, .val (.bool ((decide (a0.Dim ≥ 0)) && ((decide (a0.Dim ≤ 1048576)) && ((a0.Parts.length : Int) == 0)))))]) (H1 := [⟨3, [(TSpace.lit a0)], 0, none⟩]) rfl ?_ ?_
      · by_cases c5 : a0.Dim ≥ 0
        · by_cases c6 : a0.Dim ≤ 1048576
          · exact (.op 0 rfl (faP fa25_1 rfl) <| .op 0 rfl (ldP rfl sz3 ag3 rfl) <| .op 0 rfl (geI rfl rfl) <| .op 0 rfl (mvV rfl) <| .op 0 (gT rfl rfl rfl (decide_eq_true c5)) (faP fa25_1 rfl) <| .op 0 (gT rfl rfl rfl (decide_eq_true c5)) (ldP rfl sz3 ag3 rfl) <| .op 0 (gT rfl rfl rfl (decide_eq_true c5)) (leI rfl rfl) <| .op 0 rfl (pkTV rfl (decide_eq_true c5) rfl) <| .op 0 rfl (mvV rfl) <| .op 0 (gT rfl rfl rfl (decide_eq_true c6)) (faP fa25_2 rfl) <| .op 0 (gT rfl rfl rfl (decide_eq_true c6)) (ldP rfl sz23 ag23 rfl) <| .op 0 (gT rfl rfl rfl (decide_eq_true c6)) (lnR (l := a0.Parts) sl23 rfl) <| .op 0 (gT rfl rfl rfl (decide_eq_true c6)) (eqI rfl rfl) <| .op 0 rfl (pkTV rfl (decide_eq_true c6) rfl) <| .op 0 rfl (asV rfl) <| .nilL _ ⟨cB rfl (mAndT (decide_eq_true c5) (mAndT (decide_eq_true c6) rfl)), trivial⟩)
          · exact (.op 0 rfl (faP fa25_1 rfl) <| .op 0 rfl (ldP rfl sz3 ag3 rfl) <| .op 0 rfl (geI rfl rfl) <| .op 0 rfl (mvV rfl) <| .op 0 (gT rfl rfl rfl (decide_eq_true c5)) (faP fa25_1 rfl) <| .op 0 (gT rfl rfl rfl (decide_eq_true c5)) (ldP rfl sz3 ag3 rfl) <| .op 0 (gT rfl rfl rfl (decide_eq_true c5)) (leI rfl rfl) <| .op 0 rfl (pkTV rfl (decide_eq_true c5) rfl) <| .op 0 rfl (mvV rfl) <| .no (gF rfl rfl rfl (decide_eq_false c6)) <| .no (gF rfl rfl rfl (decide_eq_false c6)) <| .no (gF rfl rfl rfl (decide_eq_false c6)) <| .no (gF rfl rfl rfl (decide_eq_false c6)) <| .op 0 rfl (pkFV rfl (decide_eq_false c6) rfl) <| .op 0 rfl (asV rfl) <| .nilL _ ⟨cB rfl (mAndT (decide_eq_true c5) (mAndF (decide_eq_false c6))), trivial⟩)
        · exact (.op 0 rfl (faP fa25_1 rfl) <| .op 0 rfl (ldP rfl sz3 ag3 rfl) <| .op 0 rfl (geI rfl rfl) <| .op 0 rfl (mvV rfl) <| .no (gF rfl rfl rfl (decide_eq_false c5)) <| .no (gF rfl rfl rfl (decide_eq_false c5)) <| .no (gF rfl rfl rfl (decide_eq_false c5)) <| .op 0 rfl (pkFV rfl (decide_eq_false c5) rfl) <| .op 0 rfl (mvV rfl) <| .no (gF rfl rfl rfl rfl) <| .no (gF rfl rfl rfl rfl) <| .no (gF rfl rfl rfl rfl) <| .no (gF rfl rfl rfl rfl) <| .op 0 rfl (pkFV rfl rfl rfl) <| .op 0 rfl (asV rfl) <| .nilL _ ⟨cB rfl (mAndF (decide_eq_false c5)), trivial⟩)
      refine .inBlock ?_
      refine .seq ?_
      refine .seq ?_
      refine .reg0 rfl (.op 0 rfl (mvV rfl) <| .op 0 rfl (notB rfl) <| .nil0) ?_
      by_cases c7 : ((decide (a0.Dim ≥ 0)) && ((decide (a0.Dim ≤ 1048576)) && ((a0.Parts.length : Int) == 0))) = true
      · rw [if_pos c7] at h
        refine .condF rfl (bnotF c7) ?_
        refine .skip ?_
        refine .seq ?_
        refine .reg0 rfl (.op 0 rfl (asV rfl) <| .nil0) ?_
        replace h := h.symm
        subst h
        refine .keepL [] [(2, .val (.int .i64 0))] [] (by decide) (by decide) ⟨.free rfl rfl, trivial⟩ trivial ?_
        exact .ret rfl
      · rw [if_neg c7] at h
        refine .condT rfl (bnotT (Bool.eq_false_iff.mpr c7)) ?_
        refine .seq ?_
        refine .reg0 rfl (.op 0 rfl (asV rfl) <| .nil0) ?_
        replace h := h.symm
        subst h
        refine .keepL [] [(2, .val (.int .i64 50))] [] (by decide) (by decide) ⟨.free rfl rfl, trivial⟩ trivial ?_
        exact .ret rfl
    · rw [if_neg c4] at h
      refine .condF rfl (beq_eq_false_iff_ne.mpr c4) ?_
      refine .seq ?_
      refine .seq ?_
      refine .reg0 rfl (.op 0 rfl (eqI rfl rfl) <| .op 0 rfl (asV rfl) <| .nil0) ?_
      refine .consJ (fun s_ => r05_Space.j1 self26 a0 s_ r) (fun x1 => listEnv [(1, .ptr 0 1 3 0 0), (6, .val (.int .i64 a0.Tag)), (34, .val (.bool x1))]) (fun x1 => [⟨3, [(TSpace.lit a0)], 0, none⟩]) ?_ fun hJ1 => ?_
      · rintro x1 h
        unfold r05_Space.j1 at h
        try dsimp only at h
        by_cases c9 : x1 = true
        · rw [if_pos c9] at h
          refine .condT rfl c9 ?_
          refine .reg0 (e1 := listEnv [(3, .val (.bool ((decide (a0.Dim ≥ 0)) && ((decide (a0.Dim ≤ 64)) && ((a0.Parts.length : Int) == 0)))))]) (H1 := [⟨3, [(TSpace.lit a0)], 0, none⟩]) rfl ?_ ?_
          · by_cases c10 : a0.Dim ≥ 0
            · by_cases c11 : a0.Dim ≤ 64
              · exact (.op 0 rfl (faP fa25_1 rfl) <| .op 0 rfl (ldP rfl sz3 ag3 rfl) <| .op 0 rfl (geI rfl rfl) <| .op 0 rfl (mvV rfl) <| .op 0 (gT rfl rfl rfl (decide_eq_true c10)) (faP fa25_1 rfl) <| .op 0 (gT rfl rfl rfl (decide_eq_true c10)) (ldP rfl sz3 ag3 rfl) <| .op 0 (gT rfl rfl rfl (decide_eq_true c10)) (leI rfl rfl) <| .op 0 rfl (pkTV rfl (decide_eq_true c10) rfl) <| .op 0 rfl (mvV rfl) <| .op 0 (gT rfl rfl rfl (decide_eq_true c11)) (faP fa25_2 rfl) <| .op 0 (gT rfl rfl rfl (decide_eq_true c11)) (ldP rfl sz23 ag23 rfl) <| .op 0 (gT rfl rfl rfl (decide_eq_true c11)) (lnR (l := a0.Parts) sl23 rfl) <| .op 0 (gT rfl rfl rfl (decide_eq_true c11)) (eqI rfl rfl) <| .op 0 rfl (pkTV rfl (decide_eq_true c11) rfl) <| .op 0 rfl (asV rfl) <| .nilL _ ⟨cB rfl (mAndT (decide_eq_true c10) (mAndT (decide_eq_true c11) rfl)), trivial⟩)
              · exact (.op 0 rfl (faP fa25_1 rfl) <| .op 0 rfl (ldP rfl sz3 ag3 rfl) <| .op 0 rfl (geI rfl rfl) <| .op 0 rfl (mvV rfl) <| .op 0 (gT rfl rfl rfl (decide_eq_true c10)) (faP fa25_1 rfl) <| .op 0 (gT rfl rfl rfl (decide_eq_true c10)) (ldP rfl sz3 ag3 rfl) <| .op 0 (gT rfl rfl rfl (decide_eq_true c10)) (leI rfl rfl) <| .op 0 rfl (pkTV rfl (decide_eq_true c10) rfl) <| .op 0 rfl (mvV rfl) <| .no (gF rfl rfl rfl (decide_eq_false c11)) <| .no (gF rfl rfl rfl (decide_eq_false c11)) <| .no (gF rfl rfl rfl (decide_eq_false c11)) <| .no (gF rfl rfl rfl (decide_eq_false c11)) <| .op 0 rfl (pkFV rfl (decide_eq_false c11) rfl) <| .op 0 rfl (asV rfl) <| .nilL _ ⟨cB rfl (mAndT (decide_eq_true c10) (mAndF (decide_eq_false c11))), trivial⟩)
            · exact (.op 0 rfl (faP fa25_1 rfl) <| .op 0 rfl (ldP rfl sz3 ag3 rfl) <| .op 0 rfl (geI rfl rfl) <| .op 0 rfl (mvV rfl) <| .no (gF rfl rfl rfl (decide_eq_false c10)) <| .no (gF rfl rfl rfl (decide_eq_false c10)) <| .no (gF rfl rfl rfl (decide_eq_false c10)) <| .op 0 rfl (pkFV rfl (decide_eq_false c10) rfl) <| .op 0 rfl (mvV rfl) <| .no (gF rfl rfl rfl rfl) <| .no (gF rfl rfl rfl rfl) <| .no (gF rfl rfl rfl rfl) <| .no (gF rfl rfl rfl rfl) <| .op 0 rfl (pkFV rfl rfl rfl) <| .op 0 rfl (asV rfl) <| .nilL _ ⟨cB rfl (mAndF (decide_eq_false c10)), trivial⟩)
          refine .inBlock ?_
          refine .seq ?_
          refine .seq ?_
          refine .reg0 rfl (.op 0 rfl (mvV rfl) <| .op 0 rfl (notB rfl) <| .nil0) ?_
          by_cases c12 : ((decide (a0.Dim ≥ 0)) && ((decide (a0.Dim ≤ 64)) && ((a0.Parts.length : Int) == 0))) = true
          · rw [if_pos c12] at h
            refine .condF rfl (bnotF c12) ?_
            refine .skip ?_
            refine .seq ?_
            refine .reg0 rfl (.op 0 rfl (asV rfl) <| .nil0) ?_
            replace h := h.symm
            subst h
            refine .keepL [] [(2, .val (.int .i64 0))] [] (by decide) (by decide) ⟨.free rfl rfl, trivial⟩ trivial ?_
            exact .ret rfl
          · rw [if_neg c12] at h
            refine .condT rfl (bnotT (Bool.eq_false_iff.mpr c12)) ?_
            refine .seq ?_
            refine .reg0 rfl (.op 0 rfl (asV rfl) <| .nil0) ?_
            replace h := h.symm
            subst h
            refine .keepL [] [(2, .val (.int .i64 50))] [] (by decide) (by decide) ⟨.free rfl rfl, trivial⟩ trivial ?_
            exact .ret rfl
        · rw [if_neg c9] at h
          refine .condF rfl (Bool.eq_false_iff.mpr c9) ?_
          refine .seq ?_
          refine .reg0 rfl (.op 0 rfl (eqI rfl rfl) <| .op 0 rfl (asV rfl) <| .nil0) ?_
          by_cases c13 : a0.Tag = 5
          · rw [if_pos c13] at h
            refine .condT rfl (beq_iff_eq.mpr c13) ?_
            refine .seq ?_
            refine .reg0 (e1 := listEnv [(1, .ptr 0 1 3 0 0), (3, .val (.bool ((a0.Dim == 0) && ((a0.Parts.length : Int) == 2))))]) (H1 := [⟨3, [(TSpace.lit a0)], 0, none⟩]) rfl ?_ ?_
            · by_cases c14 : a0.Dim = 0
              · exact (.op 0 rfl (faP fa25_1 rfl) <| .op 0 rfl (ldP rfl sz3 ag3 rfl) <| .op 0 rfl (eqI rfl rfl) <| .op 0 rfl (mvV rfl) <| .op 0 (gT rfl rfl rfl (beq_iff_eq.mpr c14)) (faP fa25_2 rfl) <| .op 0 (gT rfl rfl rfl (beq_iff_eq.mpr c14)) (ldP rfl sz23 ag23 rfl) <| .op 0 (gT rfl rfl rfl (beq_iff_eq.mpr c14)) (lnR (l := a0.Parts) sl23 rfl) <| .op 0 (gT rfl rfl rfl (beq_iff_eq.mpr c14)) (eqI rfl rfl) <| .op 0 rfl (pkTV rfl (beq_iff_eq.mpr c14) rfl) <| .op 0 rfl (asV rfl) <| .nilL _ ⟨.ptr rfl, cB rfl (mAndT (beq_iff_eq.mpr c14) rfl), trivial⟩)
              · exact (.op 0 rfl (faP fa25_1 rfl) <| .op 0 rfl (ldP rfl sz3 ag3 rfl) <| .op 0 rfl (eqI rfl rfl) <| .op 0 rfl (mvV rfl) <| .no (gF rfl rfl rfl (beq_eq_false_iff_ne.mpr c14)) <| .no (gF rfl rfl rfl (beq_eq_false_iff_ne.mpr c14)) <| .no (gF rfl rfl rfl (beq_eq_false_iff_ne.mpr c14)) <| .no (gF rfl rfl rfl (beq_eq_false_iff_ne.mpr c14)) <| .op 0 rfl (pkFV rfl (beq_eq_false_iff_ne.mpr c14) rfl) <| .op 0 rfl (asV rfl) <| .nilL _ ⟨.ptr rfl, cB rfl (mAndF (beq_eq_false_iff_ne.mpr c14)), trivial⟩)
            refine .seq ?_
            refine .reg0 rfl (.op 0 rfl (asV rfl) <| .nil0) ?_
            refine .block ?_
            refine .keepL [0] [(1, .ptr 0 1 3 0 0), (3, .val (.bool ((a0.Dim == 0) && ((a0.Parts.length : Int) == 2)))), (4, .val (.int .i64 0))] [⟨3, [(TSpace.lit a0)], 0, none⟩] (by decide) (by decide) ⟨.ptr rfl, .free rfl rfl, .free rfl rfl, trivial⟩ ⟨⟨_, rfl, bcBox (all2_free rfl)⟩, trivial⟩ ?_
            obtain ⟨o1, hL1, h⟩ := h
            refine .loopB (r05_Space.b1 self26 a0) (fun (x2, x3) => listEnv [(1, .ptr 0 1 3 0 0), (3, .val (.bool x2)), (4, .val (.int .i64 x3))]) (fun (x2, x3) => [⟨3, [(TSpace.lit a0)], 0, none⟩]) (fun x4 => listEnv [(3, .val (.bool x4))]) (fun x4 => []) hL1 (fun r_ => r = r_) ?_ ?_ ?_
            · rintro x4 rfl
              try dsimp only [Fin.on] at h
              refine .inBlock ?_
              refine .seq ?_
              refine .seq ?_
              refine .reg0 rfl (.op 0 rfl (mvV rfl) <| .op 0 rfl (notB rfl) <| .nil0) ?_
              by_cases c24 : x4 = true
              · rw [if_pos c24] at h
                refine .condF rfl (bnotF c24) ?_
                refine .skip ?_
                refine .seq ?_
                refine .reg0 rfl (.op 0 rfl (asV rfl) <| .nil0) ?_
                replace h := h.symm
                subst h
                refine .keepL [] [(2, .val (.int .i64 0))] [] (by decide) (by decide) ⟨.free rfl rfl, trivial⟩ trivial ?_
                exact .ret rfl
              · rw [if_neg c24] at h
                refine .condT rfl (bnotT (Bool.eq_false_iff.mpr c24)) ?_
                refine .seq ?_
                refine .reg0 rfl (.op 0 rfl (asV rfl) <| .nil0) ?_
                replace h := h.symm
                subst h
                refine .keepL [] [(2, .val (.int .i64 50))] [] (by decide) (by decide) ⟨.free rfl rfl, trivial⟩ trivial ?_
                exact .ret rfl
            · rintro r_ rfl
              exact h
            · rintro ⟨x2, x3⟩ z1 h hn1 hx1 hr1
              dsimp only [r05_Space.b1] at h
              refine .seq ?_
              refine .seq ?_
              refine .reg0 (e1 := listEnv [(1, .ptr 0 1 3 0 0), (3, .val (.bool x2)), (4, .val (.int .i64 x3)), (69, .val (.bool ((decide (x3 < (a0.Parts.length : Int))) && x2)))]) (H1 := [⟨3, [(TSpace.lit a0)], 0, none⟩]) rfl ?_ ?_
              · by_cases c21 : x3 < (a0.Parts.length : Int)
                · exact (.op 0 rfl (mvV rfl) <| .op 0 rfl (faP fa25_2 rfl) <| .op 0 rfl (ldP rfl sz23 ag23 rfl) <| .op 0 rfl (lnR (l := a0.Parts) sl23 rfl) <| .op 0 rfl (ltI rfl rfl) <| .op 0 rfl (mvV rfl) <| .op 0 (gT rfl rfl rfl (decide_eq_true c21)) (mvV rfl) <| .op 0 rfl (pkTV rfl (decide_eq_true c21) rfl) <| .nilL _ ⟨.ptr rfl, .free rfl rfl, .free rfl rfl, cB rfl (mAndT (decide_eq_true c21) rfl), trivial⟩)
                · exact (.op 0 rfl (mvV rfl) <| .op 0 rfl (faP fa25_2 rfl) <| .op 0 rfl (ldP rfl sz23 ag23 rfl) <| .op 0 rfl (lnR (l := a0.Parts) sl23 rfl) <| .op 0 rfl (ltI rfl rfl) <| .op 0 rfl (mvV rfl) <| .no (gF rfl rfl rfl (decide_eq_false c21)) <| .op 0 rfl (pkFV rfl (decide_eq_false c21) rfl) <| .nilL _ ⟨.ptr rfl, .free rfl rfl, .free rfl rfl, cB rfl (mAndF (decide_eq_false c21)), trivial⟩)
              by_cases c22 : ((decide (x3 < (a0.Parts.length : Int))) && x2) = true
              · rw [if_pos c22] at h
                refine .condT rfl c22 ?_
                refine .skip ?_
                refine .seq ?_
                refine .block ?_
                obtain ⟨g30_3, h⟩ := h
                obtain ⟨g30_11, h⟩ := h
                obtain ⟨t30_13, g30_13, h⟩ := h
                refine .reg0 (e1 := listEnv [(1, .ptr 0 1 3 0 0), (3, .val (.bool ((!((rdl a0.Parts x3).Tag == 5)) && (t30_13 == 0)))), (4, .val (.int .i64 x3))]) (H1 := [⟨3, [(TSpace.lit a0)], 0, none⟩]) rfl ?_ ?_
                · by_cases c23 : (rdl a0.Parts x3).Tag = 5
                  · exact (.op 0 rfl (faP fa25_2 rfl) <| .op 0 rfl (ldP rfl sz23 ag23 rfl) <| .op 0 rfl (mvV rfl) <| .op 0 rfl (ixR (l := a0.Parts) (lit := TSpace.lit) sl23 rfl rfl TSpace.cells_lit g30_3.1 g30_3.2) <| .op 0 rfl (faC fa25_0 rfl) <| .op 0 rfl (ldC rfl sz22 ag22 rfl) <| .op 0 rfl (neI rfl rfl) <| .op 0 rfl (mvV rfl) <| .no (gF rfl rfl rfl (bne_eq_false_iff_eq.mpr c23)) <| .no (gF rfl rfl rfl (bne_eq_false_iff_eq.mpr c23)) <| .no (gF rfl rfl rfl (bne_eq_false_iff_eq.mpr c23)) <| .no (gF rfl rfl rfl (bne_eq_false_iff_eq.mpr c23)) <| .no (gF rfl rfl rfl (bne_eq_false_iff_eq.mpr c23)) <| .no (gF rfl rfl rfl (bne_eq_false_iff_eq.mpr c23)) <| .no (gF rfl rfl rfl (bne_eq_false_iff_eq.mpr c23)) <| .op 0 rfl (pkFV rfl (bne_eq_false_iff_eq.mpr c23) rfl) <| .op 0 rfl (asV rfl) <| .nilL _ ⟨.ptr rfl, cB rfl (mAndF (bnotF (beq_iff_eq.mpr c23))), .free rfl rfl, trivial⟩)
                  · exact (.op 0 rfl (faP fa25_2 rfl) <| .op 0 rfl (ldP rfl sz23 ag23 rfl) <| .op 0 rfl (mvV rfl) <| .op 0 rfl (ixR (l := a0.Parts) (lit := TSpace.lit) sl23 rfl rfl TSpace.cells_lit g30_3.1 g30_3.2) <| .op 0 rfl (faC fa25_0 rfl) <| .op 0 rfl (ldC rfl sz22 ag22 rfl) <| .op 0 rfl (neI rfl rfl) <| .op 0 rfl (mvV rfl) <| .op 0 (gT rfl rfl rfl (bne_iff_ne.mpr c23)) (faP fa25_2 rfl) <| .op 0 (gT rfl rfl rfl (bne_iff_ne.mpr c23)) (ldP rfl sz23 ag23 rfl) <| .op 0 (gT rfl rfl rfl (bne_iff_ne.mpr c23)) (mvV rfl) <| .op 0 (gT rfl rfl rfl (bne_iff_ne.mpr c23)) (ixR (l := a0.Parts) (lit := TSpace.lit) sl23 rfl rfl TSpace.cells_lit (g30_11 c23).1 (g30_11 c23).2) <| .op 0 (gT rfl rfl rfl (bne_iff_ne.mpr c23)) (ldCG rfl sz25 ag25 rfl) <| .callI (gT rfl rfl rfl (bne_iff_ne.mpr c23)) (callee_of rfl go26 rfl) (.pure rfl rfl (hs26 _ _ (g30_13 c23))) <| .op 0 (gT rfl rfl rfl (bne_iff_ne.mpr c23)) (eqI rfl rfl) <| .op 0 rfl (pkTV rfl (bne_iff_ne.mpr c23) rfl) <| .op 0 rfl (asV rfl) <| .nilL _ ⟨.ptr rfl, cB rfl (mAndT (bnotT (beq_eq_false_iff_ne.mpr c23)) rfl), .free rfl rfl, trivial⟩)
                refine .inBlock ?_
                refine .reg0 rfl (.op 0 rfl (mvV rfl) <| .op 0 rfl (addI rfl rfl) <| .op 0 rfl (asV rfl) <| .nil0) ?_
                refine .keepL [0] [(1, .ptr 0 1 3 0 0), (3, .val (.bool ((!((rdl a0.Parts x3).Tag == 5)) && (t30_13 == 0)))), (4, .val (.int .i64 (IntKind.i64.wrap (x3 + 1))))] [⟨3, [(TSpace.lit a0)], 0, none⟩] (by decide) (by decide) ⟨.ptr rfl, .free rfl rfl, .free rfl rfl, trivial⟩ ⟨⟨_, rfl, bcBox (all2_free rfl)⟩, trivial⟩ ?_
                exact hn1 _ h
              · rw [if_neg c22] at h
                refine .condF rfl (Bool.eq_false_iff.mpr c22) ?_
                refine .exit rfl ?_
                refine .keepL [] [(3, .val (.bool x2))] [] (by decide) (by decide) ⟨.free rfl rfl, trivial⟩ trivial ?_
                exact hx1 _ h
          · rw [if_neg c13] at h
            refine .condF rfl (beq_eq_false_iff_ne.mpr c13) ?_
            refine .reg0 rfl (.op 0 rfl (asV rfl) <| .nil0) ?_
            refine .inBlock ?_
            refine .seq ?_
            refine .seq ?_
            refine .reg0 rfl (.op 0 rfl (mvV rfl) <| .op 0 rfl (notB rfl) <| .nil0) ?_
            refine .condT rfl (bnotT rfl) ?_
            refine .seq ?_
            refine .reg0 rfl (.op 0 rfl (asV rfl) <| .nil0) ?_
            replace h := h.symm
            subst h
            refine .keepL [] [(2, .val (.int .i64 50))] [] (by decide) (by decide) ⟨.free rfl rfl, trivial⟩ trivial ?_
            exact .ret rfl
      · by_cases c25 : a0.Tag = 3
        · rw [if_pos c25] at h
          refine .condT rfl (beq_iff_eq.mpr c25) ?_
          refine .skip ?_
          refine .keepL [0] [(1, .ptr 0 1 3 0 0), (6, .val (.int .i64 a0.Tag)), (34, .val (.bool (a0.Tag == 3)))] [⟨3, [(TSpace.lit a0)], 0, none⟩] (by decide) (by decide) ⟨.ptr rfl, .free rfl rfl, .free rfl rfl, trivial⟩ ⟨⟨_, rfl, bcBox (all2_free rfl)⟩, trivial⟩ ?_
          exact hJ1 _ h
        · rw [if_neg c25] at h
          refine .condF rfl (beq_eq_false_iff_ne.mpr c25) ?_
          refine .reg0 rfl (.op 0 rfl (eqI rfl rfl) <| .op 0 rfl (asV rfl) <| .nil0) ?_
          refine .keepL [0] [(1, .ptr 0 1 3 0 0), (6, .val (.int .i64 a0.Tag)), (34, .val (.bool (a0.Tag == 4)))] [⟨3, [(TSpace.lit a0)], 0, none⟩] (by decide) (by decide) ⟨.ptr rfl, .free rfl rfl, .free rfl rfl, trivial⟩ ⟨⟨_, rfl, bcBox (all2_free rfl)⟩, trivial⟩ ?_
          exact hJ1 _ h
def r05_Space.fN : Nat → TSpace → Int → Prop
  | 0 => fun _ _ => False
  | n + 1 => r05_Space.step (r05_Space.fN n)
theorem r05_Space.ND : ∀ (n : Nat) {a0 : TSpace} {r : Int} (h : r05_Space.fN n a0 r), D Try.prog X (.callH 26 [.agg (TSpace.lit a0)] [] (.val (.int .i64 r)) [])
  | 0, _, _, h => h.elim
  | n + 1, _, _, h => r05_Space.stepD (fun _ _ h => r05_Space.ND n h) h
def r05_Space.f (a0 : TSpace) (r : Int) : Prop := ∃ n, r05_Space.fN n a0 r
theorem r05_Space.D {a0 : TSpace} {r : Int} (h : r05_Space.f a0 r) : D Try.prog X (.callH 26 [.agg (TSpace.lit a0)] [] (.val (.int .i64 r)) []) := by obtain ⟨n, h⟩ := h; exact r05_Space.ND n h
end Go.RM.Try
