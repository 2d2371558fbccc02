/- GJ, for the statement WeightSpaces: what it needs, no more. -/
import Derived.Test.YthjbpjpcddegfaaGreatDoorZWeightSpacesGI
set_option linter.unusedVariables false
set_option maxRecDepth 8000
set_option maxHeartbeats 4000000
namespace Go.RM.Tryz
open Go.RM Go.Proofs
abbrev GJ_c0 : List PV := [bo false, i6 0, u6 0, nul, nul, nul]
abbrev GJ_c1 : List PV := [bo false, i6 0, u6 0, .rows (([] : List Int).map (cInt .u64)), .rows (([] : List TCell).map TCell.cells), .rows (([] : List TWeight).map TWeight.cells)]
def cost_Height.f (a0 : Int) (r : Int × Int) : Prop :=
  ∃ t2_1 : Int, (cost_checks.f a0 [] t2_1) ∧ if t2_1 = 0 then (r = ((IntKind.i64.wrap (a0 + 1)), 0)) else (r = (0, t2_1))
theorem cost_Height.D {a0 r} (h : cost_Height.f a0 r) : D Tryz.prog X (.callH 52 [.val (.int .i64 a0)] [] (.tuple [.val (.int .i64 r.1), .val (.int .i64 r.2)]) []) := by
  unfold cost_Height.f at h
  refine .enter 12 0 fn52 rfl rfl rfl <| .seq <| .reg0 rfl (.op 0 rfl (asV rfl) <| .op 0 rfl (asV rfl) <| .nil0) <| .seq <| .seq ?_
  obtain ⟨t2_1, g2_1, h⟩ := h
  refine .reg0 rfl (.m rfl <| .callI rfl (callee_of rfl go88 rfl) (.lendC (args' := [i6 a0, .rows (([] : List Int).map (cInt .i64))])  [] false (.cons (.free rfl rfl) <| .cons (.nil) <| .nil) (by decide) rfl rfl rfl rfl (cost_checks.D g2_1)) <| .a rfl <| .nil0) <| .seq <| .reg0 rfl (.op 0 rfl (mvV rfl) <| .op 0 rfl (neI rfl rfl) <| .nil0) ?_
  by_cases c1 : t2_1 = 0
  · rw [if_pos c1] at h
    refine .condF rfl (nf c1) <| .skip <| .seq <| .reg0 rfl (.op 0 rfl (mvV rfl) <| .op 0 rfl (addI rfl rfl) <| .op 0 rfl (asV rfl) <| .op 0 rfl (asV rfl) <| .nil0) ?_
    replace h := h.symm
    subst h
    refine .kf [(2, i6 (IntKind.i64.wrap (a0 + 1))), (3, i6 0)] rfl rfl ?_
    exact .ret rfl
  · rw [if_neg c1] at h
    refine .condT rfl (nt c1) <| .seq <| .reg0 rfl (.op 0 rfl (mvV rfl) <| .op 0 rfl (asV rfl) <| .op 0 rfl (asV rfl) <| .nil0) ?_
    replace h := h.symm
    subst h
    refine .kf [(2, i6 0), (3, i6 t2_1)] rfl rfl ?_
    exact .ret rfl
def cells_Height.f (a0 : Int) (r : Int × Int) : Prop :=
  ∃ t2_1 : Int, (cells_dims.f a0 t2_1) ∧ if t2_1 = 0 then (r = ((IntKind.i64.wrap (a0 * (IntKind.i64.wrap (a0 + 2)))), 0)) else (r = (0, t2_1))
theorem cells_Height.D {a0 r} (h : cells_Height.f a0 r) : D Tryz.prog X (.callH 53 [.val (.int .i64 a0)] [] (.tuple [.val (.int .i64 r.1), .val (.int .i64 r.2)]) []) := by
  unfold cells_Height.f at h
  refine .enter 14 0 fn53 rfl rfl rfl <| .seq <| .reg0 rfl (.op 0 rfl (asV rfl) <| .op 0 rfl (asV rfl) <| .nil0) <| .seq <| .seq ?_
  obtain ⟨t2_1, g2_1, h⟩ := h
  refine .reg0 rfl (.m rfl <| .c rfl go89 rfl rfl rfl (cells_dims.D g2_1) <| .a rfl <| .nil0) <| .seq <| .reg0 rfl (.op 0 rfl (mvV rfl) <| .op 0 rfl (neI rfl rfl) <| .nil0) ?_
  by_cases c1 : t2_1 = 0
  · rw [if_pos c1] at h
    refine .condF rfl (nf c1) <| .skip <| .seq <| .reg0 rfl (.op 0 rfl (mvV rfl) <| .op 0 rfl (mvV rfl) <| .op 0 rfl (addI rfl rfl) <| .op 0 rfl (mulI rfl rfl) <| .op 0 rfl (asV rfl) <| .op 0 rfl (asV rfl) <| .nil0) ?_
    replace h := h.symm
    subst h
    refine .kf [(2, i6 (IntKind.i64.wrap (a0 * (IntKind.i64.wrap (a0 + 2))))), (3, i6 0)] rfl rfl ?_
    exact .ret rfl
  · rw [if_neg c1] at h
    refine .condT rfl (nt c1) <| .seq <| .reg0 rfl (.op 0 rfl (mvV rfl) <| .op 0 rfl (asV rfl) <| .op 0 rfl (asV rfl) <| .nil0) ?_
    replace h := h.symm
    subst h
    refine .kf [(2, i6 0), (3, i6 t2_1)] rfl rfl ?_
    exact .ret rfl
def weight_Height.step (self25 : TSpace → (Int × Int) → Prop) (a0 : TSpace) (r : Int × Int) : Prop :=
  ∃ t2_1 : Int, (weight_Space.f a0 t2_1) ∧ if t2_1 = 0 then (if a0.Tag = 2 then (∃ t6_2 : Int × Int, (cost_Height.f a0.Dim t6_2) ∧ r = (t6_2.1, t6_2.2)) else (if a0.Tag = 3 then (r = ((IntKind.i64.wrap ((IntKind.i64.wrap (a0.Dim * (IntKind.i64.wrap (a0.Dim + 1)))) + 1)), 0)) else (if a0.Tag = 4 then (∃ t10_2 : Int × Int, (cells_Height.f a0.Dim t10_2) ∧ r = ((IntKind.i64.wrap (t10_2.1 + 1)), t10_2.2)) else (if a0.Tag = 5 then (((InR 0 a0.Parts.length)) ∧ ∃ t13_4 : Int × Int, (self25 (rdl a0.Parts 0) t13_4) ∧ ((InR 1 a0.Parts.length)) ∧ ∃ t14_4 : Int × Int, (self25 (rdl a0.Parts 1) t14_4) ∧ r = ((IntKind.i64.wrap (t13_4.1 + t14_4.1)), 0)) else (r = (1, 0)))))) else (r = (0, t2_1))
theorem weight_Height.stepD {self25 : TSpace → (Int × Int) → Prop} {a0 : TSpace} (hs25 : ∀ z0_ r_, self25 z0_ r_ → D Tryz.prog X (.callH 25 [.agg (TSpace.lit z0_)] [] (.tuple [.val (.int .i64 r_.1), .val (.int .i64 r_.2)]) [])) {r : Int × Int} (h : weight_Height.step self25 a0 r) : D Tryz.prog X (.callH 25 [.agg (TSpace.lit a0)] [] (.tuple [.val (.int .i64 r.1), .val (.int .i64 r.2)]) []) := by
  unfold weight_Height.step at h
  refine .enter 66 0 fn25 rfl rfl rfl <| .seq <| .room 0 <| .reg0 rfl (.op 0 rfl (bxP (s := 3) (cs := (TSpace.lit a0)) rfl ⟨rfl, by decide, rfl⟩ rfl) <| .op 0 rfl (asV rfl) <| .op 0 rfl (asV rfl) <| .nil0) <| .seq <| .seq ?_
  obtain ⟨t2_1, g2_1, h⟩ := h
  refine .reg0 rfl (.o (ldG rfl sz25 ag25 rfl) <| .c rfl go29 rfl rfl rfl (weight_Space.D g2_1) <| .a rfl <| .nil0) <| .seq <| .reg0 rfl (.op 0 rfl (mvV rfl) <| .op 0 rfl (neI rfl rfl) <| .nil0) ?_
  by_cases c1 : t2_1 = 0
  · rw [if_pos c1] at h
    refine .condF rfl (nf c1) <| .skip <| .seq <| .seq <| .reg0 rfl (.op 0 rfl (faP fa25_0 rfl) <| .op 0 rfl (ldP rfl sz22 ag22 rfl) <| .nil0) <| .block <| .seq <| .reg0 rfl (.op 0 rfl (eqI rfl rfl) <| .op 0 rfl (asV rfl) <| .nil0) ?_
    by_cases c2 : a0.Tag = 2
    · rw [if_pos c2] at h
      refine .condT rfl (bt c2) <| .seq ?_
      obtain ⟨t6_2, g6_2, h⟩ := h
      refine .reg0 rfl (.o (faP fa25_1 rfl) <| .o (ldP rfl sz3 ag3 rfl) <| .c rfl go52 rfl rfl rfl (cost_Height.D g6_2) <| .o (exT rfl rfl) <| .o (exT rfl rfl) <| .a rfl <| .a rfl <| .nil0) ?_
      replace h := h.symm
      subst h
      refine .kf [(2, i6 t6_2.1), (3, i6 t6_2.2)] rfl rfl ?_
      exact .ret rfl
    · rw [if_neg c2] at h
      refine .condF rfl (bn c2) <| .seq <| .reg0 rfl (.op 0 rfl (eqI rfl rfl) <| .op 0 rfl (asV rfl) <| .nil0) ?_
      by_cases c3 : a0.Tag = 3
      · rw [if_pos c3] at h
        refine .condT rfl (bt c3) <| .seq <| .reg0 rfl (.op 0 rfl (faP fa25_1 rfl) <| .op 0 rfl (ldP rfl sz3 ag3 rfl) <| .op 0 rfl (faP fa25_1 rfl) <| .op 0 rfl (ldP rfl sz3 ag3 rfl) <| .op 0 rfl (addI rfl rfl) <| .op 0 rfl (mulI rfl rfl) <| .op 0 rfl (addI rfl rfl) <| .op 0 rfl (asV rfl) <| .op 0 rfl (asV rfl) <| .nil0) ?_
        replace h := h.symm
        subst h
        refine .kf [(2, i6 (IntKind.i64.wrap ((IntKind.i64.wrap (a0.Dim * (IntKind.i64.wrap (a0.Dim + 1)))) + 1))), (3, i6 0)] rfl rfl ?_
        exact .ret rfl
      · rw [if_neg c3] at h
        refine .condF rfl (bn c3) <| .seq <| .reg0 rfl (.op 0 rfl (eqI rfl rfl) <| .op 0 rfl (asV rfl) <| .nil0) ?_
        by_cases c4 : a0.Tag = 4
        · rw [if_pos c4] at h
          refine .condT rfl (bt c4) <| .seq ?_
          obtain ⟨t10_2, g10_2, h⟩ := h
          refine .reg0 rfl (.o (faP fa25_1 rfl) <| .o (ldP rfl sz3 ag3 rfl) <| .c rfl go53 rfl rfl rfl (cells_Height.D g10_2) <| .o (mvT rfl) <| .o (exT rfl rfl) <| .o (exT rfl rfl) <| .a rfl <| .a rfl <| .nil0) <| .seq <| .reg0 rfl (.op 0 rfl (mvV rfl) <| .op 0 rfl (addI rfl rfl) <| .op 0 rfl (mvV rfl) <| .op 0 rfl (asV rfl) <| .op 0 rfl (asV rfl) <| .nil0) ?_
          replace h := h.symm
          subst h
          refine .kf [(2, i6 (IntKind.i64.wrap (t10_2.1 + 1))), (3, i6 t10_2.2)] rfl rfl ?_
          exact .ret rfl
        · rw [if_neg c4] at h
          refine .condF rfl (bn c4) <| .seq <| .reg0 rfl (.op 0 rfl (eqI rfl rfl) <| .op 0 rfl (asV rfl) <| .nil0) ?_
          by_cases c5 : a0.Tag = 5
          · rw [if_pos c5] at h
            refine .condT rfl (bt c5) <| .seq ?_
            obtain ⟨g13_2, h⟩ := h
            obtain ⟨t13_4, g13_4, h⟩ := h
            refine .reg0 rfl (.o (faP fa25_2 rfl) <| .o (ldP rfl sz23 ag23 rfl) <| .o (ixR (l := a0.Parts) (lit := TSpace.lit) sl23 rfl rfl TSpace.cells_lit g13_2.1 g13_2.2) <| .o (ldCG rfl sz25 ag25 rfl) <| .c rfl go25 rfl rfl rfl (hs25 _ _ g13_4) <| .o (mvT rfl) <| .o (exT rfl rfl) <| .o (exT rfl rfl) <| .a rfl <| .a rfl <| .nil0) <| .seq ?_
            obtain ⟨g14_2, h⟩ := h
            obtain ⟨t14_4, g14_4, h⟩ := h
            refine .reg0 rfl (.o (faP fa25_2 rfl) <| .o (ldP rfl sz23 ag23 rfl) <| .o (ixR (l := a0.Parts) (lit := TSpace.lit) sl23 rfl rfl TSpace.cells_lit g14_2.1 g14_2.2) <| .o (ldCG rfl sz25 ag25 rfl) <| .c rfl go25 rfl rfl rfl (hs25 _ _ g14_4) <| .o (mvT rfl) <| .o (exT rfl rfl) <| .o (exT rfl rfl) <| .a rfl <| .a rfl <| .nil0) <| .seq <| .reg0 (e1 := listEnv [(2, i6 (IntKind.i64.wrap (t13_4.1 + t14_4.1))), (3, i6 0)]) (H1 := [⟨3, [(TSpace.lit a0)], 0, none⟩]) rfl (.op 0 rfl (mvV rfl) <| .op 0 rfl (mvV rfl) <| .op 0 rfl (addI rfl rfl) <| .op 0 rfl (asV rfl) <| .op 0 rfl (asV rfl) <| .nilL _ ⟨.free rfl rfl, .free rfl rfl, trivial⟩) ?_
            replace h := h.symm
            subst h
            refine .kf [(2, i6 (IntKind.i64.wrap (t13_4.1 + t14_4.1))), (3, i6 0)] rfl rfl ?_
            exact .ret rfl
          · rw [if_neg c5] at h
            refine .condF rfl (bn c5) <| .skip <| .inBlock <| .seq <| .reg0 rfl (.op 0 rfl (asV rfl) <| .op 0 rfl (asV rfl) <| .nil0) ?_
            replace h := h.symm
            subst h
            refine .kf [(2, i6 1), (3, i6 0)] rfl rfl ?_
            exact .ret rfl
  · rw [if_neg c1] at h
    refine .condT rfl (nt c1) <| .seq <| .reg0 rfl (.op 0 rfl (mvV rfl) <| .op 0 rfl (asV rfl) <| .op 0 rfl (asV rfl) <| .nil0) ?_
    replace h := h.symm
    subst h
    refine .kf [(2, i6 0), (3, i6 t2_1)] rfl rfl ?_
    exact .ret rfl
def weight_Height.fN : Nat → TSpace → (Int × Int) → Prop
  | 0 => fun _ _ => False
  | n + 1 => weight_Height.step (weight_Height.fN n)
theorem weight_Height.ND : ∀ (n : Nat) {a0 : TSpace} {r : Int × Int} (h : weight_Height.fN n a0 r), D Tryz.prog X (.callH 25 [.agg (TSpace.lit a0)] [] (.tuple [.val (.int .i64 r.1), .val (.int .i64 r.2)]) [])
  | 0, _, _, h => h.elim
  | n + 1, _, _, h => weight_Height.stepD (fun _ _ h => weight_Height.ND n h) h
def weight_Height.f (a0 : TSpace) (r : Int × Int) : Prop := ∃ n, weight_Height.fN n a0 r
theorem weight_Height.D {a0 r} (h : weight_Height.f a0 r) : D Tryz.prog X (.callH 25 [.agg (TSpace.lit a0)] [] (.tuple [.val (.int .i64 r.1), .val (.int .i64 r.2)]) []) := by obtain ⟨n, h⟩ := h; exact weight_Height.ND n h
def weight_Zero.f (a0 : TSpace) (r : TWeight × Int) : Prop :=
  ∃ t2_1 : Int, (weight_Space.f a0 t2_1) ∧ if t2_1 = 0 then (∃ t4_1 : TWeight, (weight_zero.f a0 t4_1) ∧ r = (t4_1, 0)) else (r = ((TWeight.mk false 0 (TFacts.mk 0 []) [] []), t2_1))
theorem weight_Zero.D {a0 r} (h : weight_Zero.f a0 r) : D Tryz.prog X (.callH 14 [.agg (TSpace.lit a0)] [] (.tuple [.agg (TWeight.lit r.1), .val (.int .i64 r.2)]) []) := by
  unfold weight_Zero.f at h
  refine .enter 13 0 fn14 rfl rfl rfl <| .seq <| .room 0 <| .room 0 <| .reg0 rfl (.op 0 rfl (bxP (s := 3) (cs := (TSpace.lit a0)) rfl ⟨rfl, by decide, rfl⟩ rfl) <| .op 1 rfl (alP (s := 6) ze33 ⟨rfl, by decide, rfl⟩ rfl) <| .op 0 rfl (asV rfl) <| .nil0) <| .seq <| .seq ?_
  obtain ⟨t2_1, g2_1, h⟩ := h
  refine .reg0 rfl (.o (ldG rfl sz25 ag25 rfl) <| .c rfl go29 rfl rfl rfl (weight_Space.D g2_1) <| .a rfl <| .nil0) <| .seq <| .reg0 rfl (.op 0 rfl (mvV rfl) <| .op 0 rfl (neI rfl rfl) <| .nil0) ?_
  by_cases c1 : t2_1 = 0
  · rw [if_pos c1] at h
    refine .condF rfl (nf c1) <| .skip <| .seq ?_
    obtain ⟨t4_1, g4_1, h⟩ := h
    refine .reg0 rfl (.o (ldG rfl sz25 ag25 rfl) <| .c rfl go41 rfl rfl rfl (weight_zero.D g4_1) <| .o (stB (cs0 := GJ_c0) (cs := (TWeight.lit t4_1)) (cs1 := (TWeight.lit t4_1)) rfl rfl sz33 rfl ⟨Nat.le_of_ble_eq_true rfl, rfl⟩ rfl) <| .a rfl <| .nil0) ?_
    replace h := h.symm
    subst h
    refine .k [(2, .cptr (TWeight.lit t4_1) 0), (3, i6 0)] ⟨cFixP rfl rfl (.cons (.free rfl rfl) <| .cons (.free rfl rfl) <| .cons (.free rfl rfl) <| .cons (.free rfl rfl) <| .cons (.free rfl rfl) <| .cons (.free rfl rfl) <| .nil), .free rfl rfl, trivial⟩ ?_
    exact .ret rfl
  · rw [if_neg c1] at h
    refine .condT rfl (nt c1) <| .seq <| .reg0 rfl (.op 0 rfl (bldS (cs := GJ_c0) ze33 pl33 rfl rfl) <| .op 0 rfl (mvV rfl) <| .op 0 rfl (stB (cs0 := GJ_c0) (cs := GJ_c0) (cs1 := GJ_c0) rfl rfl sz33 rfl ⟨Nat.le_of_ble_eq_true rfl, rfl⟩ rfl) <| .op 0 rfl (asV rfl) <| .nil0) ?_
    replace h := h.symm
    subst h
    refine .k [(2, .cptr GJ_c1 0), (3, i6 t2_1)] ⟨cFixP rfl rfl (.cons (.free rfl rfl) <| .cons (.free rfl rfl) <| .cons (.free rfl rfl) <| .cons (.nil) <| .cons (.nil) <| .cons (.nil) <| .nil), .free rfl rfl, trivial⟩ ?_
    exact .ret rfl
def r05_Check.f (a0 : TSpace) (a1 : TWeight) (r : Int) : Prop :=
  ∃ t2_1 : Int, (r05_Space.f a0 t2_1) ∧ if t2_1 = 0 then (∃ t4_2 : Bool, (r05_is.f a0 a1 t4_2) ∧ if t4_2 = true then (r = 0) else (r = 51)) else (r = t2_1)
theorem r05_Check.D {a0 a1 r} (h : r05_Check.f a0 a1 r) : D Tryz.prog X (.callH 11 [.agg (TSpace.lit a0), .agg (TWeight.lit a1)] [] (.val (.int .i64 r)) []) := by
  unfold r05_Check.f at h
  refine .enter 15 0 fn11 rfl rfl rfl <| .seq <| .room 0 <| .room 0 <| .reg0 rfl (.op 0 rfl (bxP (s := 3) (cs := (TSpace.lit a0)) rfl ⟨rfl, by decide, rfl⟩ rfl) <| .op 1 rfl (bxP (s := 6) (cs := (TWeight.lit a1)) rfl ⟨rfl, by decide, rfl⟩ rfl) <| .op 0 rfl (asV rfl) <| .nil0) <| .seq ?_
  obtain ⟨t2_1, g2_1, h⟩ := h
  refine .reg0 rfl (.o (ldG rfl sz25 ag25 rfl) <| .c rfl go30 rfl rfl rfl (r05_Space.D g2_1) <| .a rfl <| .nil0) <| .seq <| .seq <| .reg0 rfl (.op 0 rfl (mvV rfl) <| .op 0 rfl (neI rfl rfl) <| .nil0) ?_
  by_cases c1 : t2_1 = 0
  · rw [if_pos c1] at h
    refine .condF rfl (nf c1) <| .skip <| .seq <| .seq ?_
    obtain ⟨t4_2, g4_2, h⟩ := h
    refine .reg0 rfl (.o (ldG rfl sz25 ag25 rfl) <| .o (ldG rfl sz33 ag33 rfl) <| .c rfl go39 rfl rfl rfl (r05_is.D g4_2) <| .o (notB rfl) <| .nil0) ?_
    by_cases c2 : t4_2 = true
    · rw [if_pos c2] at h
      refine .condF rfl (bnotF c2) <| .skip <| .seq <| .reg0 rfl (.op 0 rfl (asV rfl) <| .nil0) ?_
      replace h := h.symm
      subst h
      refine .kf [(4, i6 0)] rfl rfl ?_
      exact .ret rfl
    · rw [if_neg c2] at h
      refine .condT rfl (bnotT (nb c2)) <| .seq <| .reg0 rfl (.op 0 rfl (asV rfl) <| .nil0) ?_
      replace h := h.symm
      subst h
      refine .kf [(4, i6 51)] rfl rfl ?_
      exact .ret rfl
  · rw [if_neg c1] at h
    refine .condT rfl (nt c1) <| .seq <| .reg0 rfl (.op 0 rfl (mvV rfl) <| .op 0 rfl (asV rfl) <| .nil0) ?_
    replace h := h.symm
    subst h
    refine .kf [(4, i6 t2_1)] rfl rfl ?_
    exact .ret rfl
def weight_One.f (a0 : TSpace) (r : TWeight × Int) : Prop :=
  ∃ t2_1 : Int, (weight_Space.f a0 t2_1) ∧ if t2_1 = 0 then (∃ t4_1 : TWeight, (weight_one.f a0 t4_1) ∧ r = (t4_1, 0)) else (r = ((TWeight.mk false 0 (TFacts.mk 0 []) [] []), t2_1))
theorem weight_One.D {a0 r} (h : weight_One.f a0 r) : D Tryz.prog X (.callH 13 [.agg (TSpace.lit a0)] [] (.tuple [.agg (TWeight.lit r.1), .val (.int .i64 r.2)]) []) := by
  unfold weight_One.f at h
  refine .enter 13 0 fn13 rfl rfl rfl <| .seq <| .room 0 <| .room 0 <| .reg0 rfl (.op 0 rfl (bxP (s := 3) (cs := (TSpace.lit a0)) rfl ⟨rfl, by decide, rfl⟩ rfl) <| .op 1 rfl (alP (s := 6) ze33 ⟨rfl, by decide, rfl⟩ rfl) <| .op 0 rfl (asV rfl) <| .nil0) <| .seq <| .seq ?_
  obtain ⟨t2_1, g2_1, h⟩ := h
  refine .reg0 rfl (.o (ldG rfl sz25 ag25 rfl) <| .c rfl go29 rfl rfl rfl (weight_Space.D g2_1) <| .a rfl <| .nil0) <| .seq <| .reg0 rfl (.op 0 rfl (mvV rfl) <| .op 0 rfl (neI rfl rfl) <| .nil0) ?_
  by_cases c1 : t2_1 = 0
  · rw [if_pos c1] at h
    refine .condF rfl (nf c1) <| .skip <| .seq ?_
    obtain ⟨t4_1, g4_1, h⟩ := h
    refine .reg0 rfl (.o (ldG rfl sz25 ag25 rfl) <| .c rfl go40 rfl rfl rfl (weight_one.D g4_1) <| .o (stB (cs0 := GJ_c0) (cs := (TWeight.lit t4_1)) (cs1 := (TWeight.lit t4_1)) rfl rfl sz33 rfl ⟨Nat.le_of_ble_eq_true rfl, rfl⟩ rfl) <| .a rfl <| .nil0) ?_
    replace h := h.symm
    subst h
    refine .k [(2, .cptr (TWeight.lit t4_1) 0), (3, i6 0)] ⟨cFixP rfl rfl (.cons (.free rfl rfl) <| .cons (.free rfl rfl) <| .cons (.free rfl rfl) <| .cons (.free rfl rfl) <| .cons (.free rfl rfl) <| .cons (.free rfl rfl) <| .nil), .free rfl rfl, trivial⟩ ?_
    exact .ret rfl
  · rw [if_neg c1] at h
    refine .condT rfl (nt c1) <| .seq <| .reg0 rfl (.op 0 rfl (bldS (cs := GJ_c0) ze33 pl33 rfl rfl) <| .op 0 rfl (mvV rfl) <| .op 0 rfl (stB (cs0 := GJ_c0) (cs := GJ_c0) (cs1 := GJ_c0) rfl rfl sz33 rfl ⟨Nat.le_of_ble_eq_true rfl, rfl⟩ rfl) <| .op 0 rfl (asV rfl) <| .nil0) ?_
    replace h := h.symm
    subst h
    refine .k [(2, .cptr GJ_c1 0), (3, i6 t2_1)] ⟨cFixP rfl rfl (.cons (.free rfl rfl) <| .cons (.free rfl rfl) <| .cons (.free rfl rfl) <| .cons (.nil) <| .cons (.nil) <| .cons (.nil) <| .nil), .free rfl rfl, trivial⟩ ?_
    exact .ret rfl
def r05_One.f (a0 : TSpace) (r : TWeight × Int) : Prop :=
  ∃ t2_1 : Int, (r05_Space.f a0 t2_1) ∧ if t2_1 = 0 then (∃ t3_1 : TWeight, (r05_one.f a0 t3_1) ∧ r = (t3_1, 0)) else (r = ((TWeight.mk false 0 (TFacts.mk 0 []) [] []), 50))
theorem r05_One.D {a0 r} (h : r05_One.f a0 r) : D Tryz.prog X (.callH 26 [.agg (TSpace.lit a0)] [] (.tuple [.agg (TWeight.lit r.1), .val (.int .i64 r.2)]) []) := by
  unfold r05_One.f at h
  refine .enter 10 0 fn26 rfl rfl rfl <| .seq <| .room 0 <| .room 0 <| .reg0 rfl (.op 0 rfl (bxP (s := 3) (cs := (TSpace.lit a0)) rfl ⟨rfl, by decide, rfl⟩ rfl) <| .op 1 rfl (alP (s := 6) ze33 ⟨rfl, by decide, rfl⟩ rfl) <| .op 0 rfl (asV rfl) <| .nil0) <| .seq <| .seq ?_
  obtain ⟨t2_1, g2_1, h⟩ := h
  refine .reg0 rfl (.o (ldG rfl sz25 ag25 rfl) <| .c rfl go30 rfl rfl rfl (r05_Space.D g2_1) <| .o (neI rfl rfl) <| .nil0) ?_
  by_cases c1 : t2_1 = 0
  · rw [if_pos c1] at h
    refine .condF rfl (nf c1) <| .skip <| .seq ?_
    obtain ⟨t3_1, g3_1, h⟩ := h
    refine .reg0 rfl (.o (ldG rfl sz25 ag25 rfl) <| .c rfl go50 rfl rfl rfl (r05_one.D g3_1) <| .o (stB (cs0 := GJ_c0) (cs := (TWeight.lit t3_1)) (cs1 := (TWeight.lit t3_1)) rfl rfl sz33 rfl ⟨Nat.le_of_ble_eq_true rfl, rfl⟩ rfl) <| .a rfl <| .nil0) ?_
    replace h := h.symm
    subst h
    refine .k [(2, .cptr (TWeight.lit t3_1) 0), (3, i6 0)] ⟨cFixP rfl rfl (.cons (.free rfl rfl) <| .cons (.free rfl rfl) <| .cons (.free rfl rfl) <| .cons (.free rfl rfl) <| .cons (.free rfl rfl) <| .cons (.free rfl rfl) <| .nil), .free rfl rfl, trivial⟩ ?_
    exact .ret rfl
  · rw [if_neg c1] at h
    refine .condT rfl (nt c1) <| .seq <| .reg0 rfl (.op 0 rfl (bldS (cs := GJ_c0) ze33 pl33 rfl rfl) <| .op 0 rfl (stB (cs0 := GJ_c0) (cs := GJ_c0) (cs1 := GJ_c0) rfl rfl sz33 rfl ⟨Nat.le_of_ble_eq_true rfl, rfl⟩ rfl) <| .op 0 rfl (asV rfl) <| .nil0) ?_
    replace h := h.symm
    subst h
    refine .k [(2, .cptr GJ_c1 0), (3, i6 50)] ⟨cFixP rfl rfl (.cons (.free rfl rfl) <| .cons (.free rfl rfl) <| .cons (.free rfl rfl) <| .cons (.nil) <| .cons (.nil) <| .cons (.nil) <| .nil), .free rfl rfl, trivial⟩ ?_
    exact .ret rfl
def r05_Zero.f (a0 : TSpace) (r : TWeight × Int) : Prop :=
  ∃ t2_1 : Int, (r05_Space.f a0 t2_1) ∧ if t2_1 = 0 then (∃ t3_1 : TWeight, (r05_zero.f a0 t3_1) ∧ r = (t3_1, 0)) else (r = ((TWeight.mk false 0 (TFacts.mk 0 []) [] []), 50))
theorem r05_Zero.D {a0 r} (h : r05_Zero.f a0 r) : D Tryz.prog X (.callH 27 [.agg (TSpace.lit a0)] [] (.tuple [.agg (TWeight.lit r.1), .val (.int .i64 r.2)]) []) := by
  unfold r05_Zero.f at h
  refine .enter 10 0 fn27 rfl rfl rfl <| .seq <| .room 0 <| .room 0 <| .reg0 rfl (.op 0 rfl (bxP (s := 3) (cs := (TSpace.lit a0)) rfl ⟨rfl, by decide, rfl⟩ rfl) <| .op 1 rfl (alP (s := 6) ze33 ⟨rfl, by decide, rfl⟩ rfl) <| .op 0 rfl (asV rfl) <| .nil0) <| .seq <| .seq ?_
  obtain ⟨t2_1, g2_1, h⟩ := h
  refine .reg0 rfl (.o (ldG rfl sz25 ag25 rfl) <| .c rfl go30 rfl rfl rfl (r05_Space.D g2_1) <| .o (neI rfl rfl) <| .nil0) ?_
  by_cases c1 : t2_1 = 0
  · rw [if_pos c1] at h
    refine .condF rfl (nf c1) <| .skip <| .seq ?_
    obtain ⟨t3_1, g3_1, h⟩ := h
    refine .reg0 rfl (.o (ldG rfl sz25 ag25 rfl) <| .c rfl go47 rfl rfl rfl (r05_zero.D g3_1) <| .o (stB (cs0 := GJ_c0) (cs := (TWeight.lit t3_1)) (cs1 := (TWeight.lit t3_1)) rfl rfl sz33 rfl ⟨Nat.le_of_ble_eq_true rfl, rfl⟩ rfl) <| .a rfl <| .nil0) ?_
    replace h := h.symm
    subst h
    refine .k [(2, .cptr (TWeight.lit t3_1) 0), (3, i6 0)] ⟨cFixP rfl rfl (.cons (.free rfl rfl) <| .cons (.free rfl rfl) <| .cons (.free rfl rfl) <| .cons (.free rfl rfl) <| .cons (.free rfl rfl) <| .cons (.free rfl rfl) <| .nil), .free rfl rfl, trivial⟩ ?_
    exact .ret rfl
  · rw [if_neg c1] at h
    refine .condT rfl (nt c1) <| .seq <| .reg0 rfl (.op 0 rfl (bldS (cs := GJ_c0) ze33 pl33 rfl rfl) <| .op 0 rfl (stB (cs0 := GJ_c0) (cs := GJ_c0) (cs1 := GJ_c0) rfl rfl sz33 rfl ⟨Nat.le_of_ble_eq_true rfl, rfl⟩ rfl) <| .op 0 rfl (asV rfl) <| .nil0) ?_
    replace h := h.symm
    subst h
    refine .k [(2, .cptr GJ_c1 0), (3, i6 50)] ⟨cFixP rfl rfl (.cons (.free rfl rfl) <| .cons (.free rfl rfl) <| .cons (.free rfl rfl) <| .cons (.nil) <| .cons (.nil) <| .cons (.nil) <| .nil), .free rfl rfl, trivial⟩ ?_
    exact .ret rfl
def r05_Height.step (self28 : TSpace → (Int × Int) → Prop) (a0 : TSpace) (r : Int × Int) : Prop :=
  ∃ t2_1 : Int, (r05_Space.f a0 t2_1) ∧ if t2_1 = 0 then (if a0.Tag = 1 then (r = (1, 0)) else (if a0.Tag = 2 then (r = ((IntKind.i64.wrap (a0.Dim + 1)), 0)) else (if a0.Tag = 3 then (r = ((IntKind.i64.wrap ((IntKind.i64.wrap (a0.Dim * (IntKind.i64.wrap (a0.Dim + 1)))) + 1)), 0)) else (if a0.Tag = 4 then (r = ((IntKind.i64.wrap ((IntKind.i64.wrap (a0.Dim * (IntKind.i64.wrap (a0.Dim + 2)))) + 1)), 0)) else (((InR 0 a0.Parts.length)) ∧ ∃ t12_4 : Int × Int, (self28 (rdl a0.Parts 0) t12_4) ∧ ((InR 1 a0.Parts.length)) ∧ ∃ t13_4 : Int × Int, (self28 (rdl a0.Parts 1) t13_4) ∧ r = ((IntKind.i64.wrap (t12_4.1 + t13_4.1)), 0)))))) else (r = (0, 50))
theorem r05_Height.stepD {self28 : TSpace → (Int × Int) → Prop} {a0 : TSpace} (hs28 : ∀ z0_ r_, self28 z0_ r_ → D Tryz.prog X (.callH 28 [.agg (TSpace.lit z0_)] [] (.tuple [.val (.int .i64 r_.1), .val (.int .i64 r_.2)]) [])) {r : Int × Int} (h : r05_Height.step self28 a0 r) : D Tryz.prog X (.callH 28 [.agg (TSpace.lit a0)] [] (.tuple [.val (.int .i64 r.1), .val (.int .i64 r.2)]) []) := by
  unfold r05_Height.step at h
  refine .enter 57 0 fn28 rfl rfl rfl <| .seq <| .room 0 <| .reg0 rfl (.op 0 rfl (bxP (s := 3) (cs := (TSpace.lit a0)) rfl ⟨rfl, by decide, rfl⟩ rfl) <| .op 0 rfl (asV rfl) <| .op 0 rfl (asV rfl) <| .nil0) <| .seq <| .seq ?_
  obtain ⟨t2_1, g2_1, h⟩ := h
  refine .reg0 rfl (.o (ldG rfl sz25 ag25 rfl) <| .c rfl go30 rfl rfl rfl (r05_Space.D g2_1) <| .o (neI rfl rfl) <| .nil0) ?_
  by_cases c1 : t2_1 = 0
  · rw [if_pos c1] at h
    refine .condF rfl (nf c1) <| .skip <| .seq <| .seq <| .reg0 rfl (.op 0 rfl (faP fa25_0 rfl) <| .op 0 rfl (ldP rfl sz22 ag22 rfl) <| .nil0) <| .block <| .seq <| .reg0 rfl (.op 0 rfl (eqI rfl rfl) <| .op 0 rfl (asV rfl) <| .nil0) ?_
    by_cases c2 : a0.Tag = 1
    · rw [if_pos c2] at h
      refine .condT rfl (bt c2) <| .seq <| .reg0 rfl (.op 0 rfl (asV rfl) <| .op 0 rfl (asV rfl) <| .nil0) ?_
      replace h := h.symm
      subst h
      refine .kf [(2, i6 1), (3, i6 0)] rfl rfl ?_
      exact .ret rfl
    · rw [if_neg c2] at h
      refine .condF rfl (bn c2) <| .seq <| .reg0 rfl (.op 0 rfl (eqI rfl rfl) <| .op 0 rfl (asV rfl) <| .nil0) ?_
      by_cases c3 : a0.Tag = 2
      · rw [if_pos c3] at h
        refine .condT rfl (bt c3) <| .seq <| .reg0 rfl (.op 0 rfl (faP fa25_1 rfl) <| .op 0 rfl (ldP rfl sz3 ag3 rfl) <| .op 0 rfl (addI rfl rfl) <| .op 0 rfl (asV rfl) <| .op 0 rfl (asV rfl) <| .nil0) ?_
        replace h := h.symm
        subst h
        refine .kf [(2, i6 (IntKind.i64.wrap (a0.Dim + 1))), (3, i6 0)] rfl rfl ?_
        exact .ret rfl
      · rw [if_neg c3] at h
        refine .condF rfl (bn c3) <| .seq <| .reg0 rfl (.op 0 rfl (eqI rfl rfl) <| .op 0 rfl (asV rfl) <| .nil0) ?_
        by_cases c4 : a0.Tag = 3
        · rw [if_pos c4] at h
          refine .condT rfl (bt c4) <| .seq <| .reg0 rfl (.op 0 rfl (faP fa25_1 rfl) <| .op 0 rfl (ldP rfl sz3 ag3 rfl) <| .op 0 rfl (faP fa25_1 rfl) <| .op 0 rfl (ldP rfl sz3 ag3 rfl) <| .op 0 rfl (addI rfl rfl) <| .op 0 rfl (mulI rfl rfl) <| .op 0 rfl (addI rfl rfl) <| .op 0 rfl (asV rfl) <| .op 0 rfl (asV rfl) <| .nil0) ?_
          replace h := h.symm
          subst h
          refine .kf [(2, i6 (IntKind.i64.wrap ((IntKind.i64.wrap (a0.Dim * (IntKind.i64.wrap (a0.Dim + 1)))) + 1))), (3, i6 0)] rfl rfl ?_
          exact .ret rfl
        · rw [if_neg c4] at h
          refine .condF rfl (bn c4) <| .seq <| .reg0 rfl (.op 0 rfl (eqI rfl rfl) <| .op 0 rfl (asV rfl) <| .nil0) ?_
          by_cases c5 : a0.Tag = 4
          · rw [if_pos c5] at h
            refine .condT rfl (bt c5) <| .seq <| .reg0 rfl (.op 0 rfl (faP fa25_1 rfl) <| .op 0 rfl (ldP rfl sz3 ag3 rfl) <| .op 0 rfl (faP fa25_1 rfl) <| .op 0 rfl (ldP rfl sz3 ag3 rfl) <| .op 0 rfl (addI rfl rfl) <| .op 0 rfl (mulI rfl rfl) <| .op 0 rfl (addI rfl rfl) <| .op 0 rfl (asV rfl) <| .op 0 rfl (asV rfl) <| .nil0) ?_
            replace h := h.symm
            subst h
            refine .kf [(2, i6 (IntKind.i64.wrap ((IntKind.i64.wrap (a0.Dim * (IntKind.i64.wrap (a0.Dim + 2)))) + 1))), (3, i6 0)] rfl rfl ?_
            exact .ret rfl
          · rw [if_neg c5] at h
            refine .condF rfl (bn c5) <| .skip <| .inBlock <| .seq ?_
            obtain ⟨g12_2, h⟩ := h
            obtain ⟨t12_4, g12_4, h⟩ := h
            refine .reg0 rfl (.o (faP fa25_2 rfl) <| .o (ldP rfl sz23 ag23 rfl) <| .o (ixR (l := a0.Parts) (lit := TSpace.lit) sl23 rfl rfl TSpace.cells_lit g12_2.1 g12_2.2) <| .o (ldCG rfl sz25 ag25 rfl) <| .c rfl go28 rfl rfl rfl (hs28 _ _ g12_4) <| .o (mvT rfl) <| .o (exT rfl rfl) <| .o (exT rfl rfl) <| .a rfl <| .a rfl <| .nil0) <| .seq ?_
            obtain ⟨g13_2, h⟩ := h
            obtain ⟨t13_4, g13_4, h⟩ := h
            refine .reg0 rfl (.o (faP fa25_2 rfl) <| .o (ldP rfl sz23 ag23 rfl) <| .o (ixR (l := a0.Parts) (lit := TSpace.lit) sl23 rfl rfl TSpace.cells_lit g13_2.1 g13_2.2) <| .o (ldCG rfl sz25 ag25 rfl) <| .c rfl go28 rfl rfl rfl (hs28 _ _ g13_4) <| .o (mvT rfl) <| .o (exT rfl rfl) <| .o (exT rfl rfl) <| .a rfl <| .a rfl <| .nil0) <| .seq <| .reg0 (e1 := listEnv [(2, i6 (IntKind.i64.wrap (t12_4.1 + t13_4.1))), (3, i6 0)]) (H1 := [⟨3, [(TSpace.lit a0)], 0, none⟩]) rfl (.op 0 rfl (mvV rfl) <| .op 0 rfl (mvV rfl) <| .op 0 rfl (addI rfl rfl) <| .op 0 rfl (asV rfl) <| .op 0 rfl (asV rfl) <| .nilL _ ⟨.free rfl rfl, .free rfl rfl, trivial⟩) ?_
            replace h := h.symm
            subst h
            refine .kf [(2, i6 (IntKind.i64.wrap (t12_4.1 + t13_4.1))), (3, i6 0)] rfl rfl ?_
            exact .ret rfl
  · rw [if_neg c1] at h
    refine .condT rfl (nt c1) <| .seq <| .reg0 rfl (.op 0 rfl (asV rfl) <| .op 0 rfl (asV rfl) <| .nil0) ?_
    replace h := h.symm
    subst h
    refine .kf [(2, i6 0), (3, i6 50)] rfl rfl ?_
    exact .ret rfl
def r05_Height.fN : Nat → TSpace → (Int × Int) → Prop
  | 0 => fun _ _ => False
  | n + 1 => r05_Height.step (r05_Height.fN n)
theorem r05_Height.ND : ∀ (n : Nat) {a0 : TSpace} {r : Int × Int} (h : r05_Height.fN n a0 r), D Tryz.prog X (.callH 28 [.agg (TSpace.lit a0)] [] (.tuple [.val (.int .i64 r.1), .val (.int .i64 r.2)]) [])
  | 0, _, _, h => h.elim
  | n + 1, _, _, h => r05_Height.stepD (fun _ _ h => r05_Height.ND n h) h
def r05_Height.f (a0 : TSpace) (r : Int × Int) : Prop := ∃ n, r05_Height.fN n a0 r
theorem r05_Height.D {a0 r} (h : r05_Height.f a0 r) : D Tryz.prog X (.callH 28 [.agg (TSpace.lit a0)] [] (.tuple [.val (.int .i64 r.1), .val (.int .i64 r.2)]) []) := by obtain ⟨n, h⟩ := h; exact r05_Height.ND n h
def weight_Check.f (a0 : TSpace) (a1 : TWeight) (r : Int) : Prop :=
  ∃ t2_3 : Int, (weight_checked.f a0 [a1] t2_3) ∧ r = t2_3
theorem weight_Check.D {a0 a1 r} (h : weight_Check.f a0 a1 r) : D Tryz.prog X (.callH 31 [.agg (TSpace.lit a0), .agg (TWeight.lit a1)] [] (.val (.int .i64 r)) []) := by
  unfold weight_Check.f at h
  refine .enter 9 0 fn31 rfl rfl rfl <| .seq <| .room 0 <| .room 0 <| .reg0 rfl (.op 0 rfl (bxP (s := 3) (cs := (TSpace.lit a0)) rfl ⟨rfl, by decide, rfl⟩ rfl) <| .op 1 rfl (bxP (s := 6) (cs := (TWeight.lit a1)) rfl ⟨rfl, by decide, rfl⟩ rfl) <| .op 0 rfl (asV rfl) <| .nil0) <| .seq ?_
  obtain ⟨t2_3, g2_3, h⟩ := h
  refine .room 0 <| .reg0 rfl (.op 0 rfl (ldG rfl sz25 ag25 rfl) <| .op 0 rfl (ldG rfl sz33 ag33 rfl) <| .op 2 rfl (bldT (s := 6) (cs := [bo a1.Zero, i6 a1.Cost, u6 a1.Facts.Gen, .rows (a1.Facts.Rows.map (cInt .u64)), .rows (a1.Cells.map TCell.cells), .rows (a1.Parts.map TWeight.cells)]) (cf := TWeight.cells) [a1] un31 sz33 ze33 ⟨by decide, rfl, by decide⟩ rfl rfl rfl (by simp only [List.map, TWeight.cells_lit]; rfl) rfl) <| .callI rfl (callee_of rfl go43 rfl) (.lendC (args' := [.agg (TSpace.lit a0), .rows ([a1].map TWeight.cells)])  [2] false (.cons (.free rfl rfl) <| .cons (cFixO (l := [a1]) sl31 rfl rfl rfl rfl) <| .nil) (by decide) rfl rfl rfl rfl (weight_checked.D g2_3)) <| .op 0 rfl (asV rfl) <| .nil0) ?_
  replace h := h.symm
  subst h
  refine .kf [(4, i6 t2_3)] rfl rfl ?_
  exact .ret rfl
def slices_EqualFunc_Space_Space_Space.b1 (a0 : List TSpace) (a1 : List TSpace) (a2 : TSpace → TSpace → Bool → Prop) : Int → Rnd Int Unit Bool → Prop := fun x1 z1 => if x1 < (a0.length : Int) then (((InR x1 a0.length)) ∧ ((InR x1 a1.length)) ∧ ∃ t19_3 : Bool, (a2 (rdl a0 x1) (rdl a1 x1) t19_3) ∧ if t19_3 = true then (z1 = .next (IntKind.i64.wrap (x1 + 1))) else (z1 = .ret false)) else (z1 = .exit ())
def slices_EqualFunc_Space_Space_Space.f (a0 : List TSpace) (a1 : List TSpace) (a2 : TSpace → TSpace → Bool → Prop) (r : Bool) : Prop :=
  if (a0.length : Int) = (a1.length : Int) then (∃ o1 : Fin Unit Bool, Loop (slices_EqualFunc_Space_Space_Space.b1 a0 a1 a2) 0 o1 ∧ o1.on (fun _ => r = true) (fun r_ => r = r_)) else (r = false)
theorem slices_EqualFunc_Space_Space_Space.D {a0 : List TSpace} {a1 : List TSpace} {a2 : TSpace → TSpace → Bool → Prop} {r : Bool} {c2_ : FuncId} {k2_ : List PV} (hg2_ : isGo Tryz.prog c2_ = true) (hk2_ : PV.free deep (.clo c2_ k2_) = true) (hka2_ : k2_.all (PV.free deep) = true) (hq2_ : ∀ x0_ x1_ y_, a2 x0_ x1_ y_ → D Tryz.prog X (.callH c2_ ([.agg (TSpace.lit x0_), .agg (TSpace.lit x1_)] ++ k2_) [] (.val (.bool y_)) [])) (h : slices_EqualFunc_Space_Space_Space.f a0 a1 a2 r) : D Tryz.prog X (.callH 59 [.rows (a0.map TSpace.cells), .rows (a1.map TSpace.cells), .clo c2_ k2_] [] (.val (.bool r)) []) := by
  unfold slices_EqualFunc_Space_Space_Space.f at h
  refine .enter 32 0 fn59 rfl rfl rfl <| .seq <| .reg0 rfl (.op 0 rfl (asV rfl) <| .nil0) <| .seq <| .seq <| .reg0 rfl (.op 0 rfl (mvR rfl) <| .op 0 rfl (lnR (l := a0) sl23 rfl) <| .op 0 rfl (mvR rfl) <| .op 0 rfl (lnR (l := a1) sl23 rfl) <| .op 0 rfl (neI rfl rfl) <| .nil0) ?_
  by_cases c1 : (a0.length : Int) = (a1.length : Int)
  · rw [if_pos c1] at h
    refine .condF rfl (nf c1) <| .skip <| .seq <| .seq <| .reg0 rfl (.op 0 rfl (mvR rfl) <| .op 0 rfl (lnR (l := a0) sl23 rfl) <| .op 0 rfl (mvV rfl) <| .nil0) <| .block <| .keepL [] [(1, .rows (a1.map TSpace.cells)), (2, .clo c2_ k2_), (15, .rows (a0.map TSpace.cells)), (16, i6 (a0.length : Int)), (17, i6 0)] [] (by decide) (by decide) ⟨.free rfl rfl, .free rfl hk2_, .free rfl rfl, .free rfl rfl, .free rfl rfl, trivial⟩ trivial ?_
    obtain ⟨o1, hL1, h⟩ := h
    refine .loopB (slices_EqualFunc_Space_Space_Space.b1 a0 a1 a2) (fun x1 => listEnv [(1, .rows (a1.map TSpace.cells)), (2, .clo c2_ k2_), (15, .rows (a0.map TSpace.cells)), (16, i6 (a0.length : Int)), (17, i6 x1)]) (fun x1 => []) (fun _ => listEnv []) (fun _ => []) hL1 (fun r_ => r = r_) ?_ ?_ ?_
    · rintro ⟨⟩ rfl
      try dsimp only [Fin.on] at h
      refine .seq <| .reg0 rfl (.op 0 rfl (asV rfl) <| .nil0) ?_
      replace h := h.symm
      subst h
      refine .kf [(6, bo true)] rfl rfl ?_
      exact .ret rfl
    · rintro r_ rfl
      exact h
    · rintro x1 z1 h hn1 hx1 hr1
      dsimp only [slices_EqualFunc_Space_Space_Space.b1] at h
      refine .seq <| .reg0 rfl (.op 0 rfl (ltI rfl rfl) <| .nil0) <| .seq ?_
      by_cases c6 : x1 < (a0.length : Int)
      · rw [if_pos c6] at h
        refine .condT rfl (dt c6) <| .skip <| .seq <| .block <| .seq ?_
        obtain ⟨g17_1, h⟩ := h
        refine .room 0 <| .reg0 rfl (.op 0 rfl (mvV rfl) <| .op 0 rfl (ixR (l := a0) (lit := TSpace.lit) sl23 rfl rfl TSpace.cells_lit g17_1.1 g17_1.2) <| .op 0 rfl (ldCG rfl sz25 ag25 rfl) <| .op 0 rfl (alP (s := 3) ze25 ⟨rfl, by decide, rfl⟩ rfl) <| .op 0 rfl (asV rfl) <| .op 0 rfl (stB (cs0 := [i6 0, i6 0, nul]) (cs := (TSpace.lit (rdl a0 x1))) (cs1 := (TSpace.lit (rdl a0 x1))) rfl rfl sz25 rfl ⟨Nat.le_of_ble_eq_true rfl, rfl⟩ rfl) <| .nil0) ?_
        refine .seq ?_
        obtain ⟨g18_2, h⟩ := h
        refine .room 0 <| .reg0 rfl (.op 0 rfl (mvR rfl) <| .op 0 rfl (mvV rfl) <| .op 0 rfl (ixR (l := a1) (lit := TSpace.lit) sl23 rfl rfl TSpace.cells_lit g18_2.1 g18_2.2) <| .op 0 rfl (ldCG rfl sz25 ag25 rfl) <| .op 1 rfl (alP (s := 3) ze25 ⟨rfl, by decide, rfl⟩ rfl) <| .op 0 rfl (stB (cs0 := [i6 0, i6 0, nul]) (cs := (TSpace.lit (rdl a1 x1))) (cs1 := (TSpace.lit (rdl a1 x1))) rfl rfl sz25 rfl ⟨Nat.le_of_ble_eq_true rfl, rfl⟩ rfl) <| .nil0) ?_
        refine .seq ?_
        obtain ⟨t19_3, g19_3, h⟩ := h
        refine .reg0 rfl (.o (mvF rfl) <| .o (ldG rfl sz25 ag25 rfl) <| .o (ldG rfl sz25 ag25 rfl) <| .callI rfl (callee_of rfl hg2_ rfl) (.pure (allCons rfl (allCons rfl hka2_)) rfl (hq2_ _ _ _ g19_3)) <| .o (notB rfl) <| .nil0) ?_
        by_cases c7 : t19_3 = true
        · rw [if_pos c7] at h
          refine .condF rfl (bnotF c7) <| .skip <| .inBlock <| .reg0 rfl (.op 0 rfl (addI rfl rfl) <| .op 0 rfl (mvV rfl) <| .nil0) <| .k [(1, .rows (a1.map TSpace.cells)), (2, .clo c2_ k2_), (15, .rows (a0.map TSpace.cells)), (16, i6 (a0.length : Int)), (17, i6 (IntKind.i64.wrap (x1 + 1)))] ⟨.free rfl rfl, .free rfl hk2_, .free rfl rfl, .free rfl rfl, .free rfl rfl, trivial⟩ ?_
          exact hn1 _ h
        · rw [if_neg c7] at h
          refine .condT rfl (bnotT (nb c7)) <| .seq <| .reg0 rfl (.op 0 rfl (asV rfl) <| .nil0) ?_
          have q3 := hr1 _ h
          replace q3 := q3.symm
          subst q3
          refine .kf [(6, bo false)] rfl rfl ?_
          exact .ret rfl
      · rw [if_neg c6] at h
        refine .condF rfl (df c6) <| .exit rfl <| .keepL [] [] [] (by decide) (by decide) trivial trivial ?_
        exact hx1 _ h
  · rw [if_neg c1] at h
    refine .condT rfl (nt c1) <| .seq <| .reg0 rfl (.op 0 rfl (asV rfl) <| .nil0) ?_
    replace h := h.symm
    subst h
    refine .kf [(6, bo false)] rfl rfl ?_
    exact .ret rfl
def weight_SameSpace.step (self33 : TSpace → TSpace → Bool → Prop) (a0 : TSpace) (a1 : TSpace) (r : Bool) : Prop :=
  ∃ t2_17 : Bool, ((a0.Tag = a1.Tag) → (a0.Dim = a1.Dim) → slices_EqualFunc_Space_Space_Space.f a0.Parts a1.Parts (fun x0_ x1_ y_ => self33 x0_ x1_ y_) t2_17) ∧ r = ((a0.Tag == a1.Tag) && ((a0.Dim == a1.Dim) && t2_17))
theorem weight_SameSpace.stepD {self33 : TSpace → TSpace → Bool → Prop} {a0 : TSpace} {a1 : TSpace} (hs33 : ∀ z0_ z1_ r_, self33 z0_ z1_ r_ → D Tryz.prog X (.callH 33 [.agg (TSpace.lit z0_), .agg (TSpace.lit z1_)] [] (.val (.bool r_)) [])) {r : Bool} (h : weight_SameSpace.step self33 a0 a1 r) : D Tryz.prog X (.callH 33 [.agg (TSpace.lit a0), .agg (TSpace.lit a1)] [] (.val (.bool r)) []) := by
  unfold weight_SameSpace.step at h
  refine .enter 24 0 fn33 rfl rfl rfl <| .seq <| .room 0 <| .room 0 <| .reg0 rfl (.op 0 rfl (bxP (s := 3) (cs := (TSpace.lit a0)) rfl ⟨rfl, by decide, rfl⟩ rfl) <| .op 1 rfl (bxP (s := 3) (cs := (TSpace.lit a1)) rfl ⟨rfl, by decide, rfl⟩ rfl) <| .op 0 rfl (asV rfl) <| .nil0) <| .seq ?_
  obtain ⟨t2_17, g2_17, h⟩ := h
  refine .reg0 (e1 := listEnv [(4, bo ((a0.Tag == a1.Tag) && ((a0.Dim == a1.Dim) && t2_17)))]) (H1 := [⟨3, [(TSpace.lit a0)], 0, none⟩, ⟨3, [(TSpace.lit a1)], 0, none⟩]) rfl ?_ ?_
  · refine .o (faP fa25_0 rfl) <| .o (ldP rfl sz22 ag22 rfl) <| .o (faP fa25_0 rfl) <| .o (ldP rfl sz22 ag22 rfl) <| .o (eqI rfl rfl) <| .m rfl <| ?_
    by_cases c1 : a0.Tag = a1.Tag
    · refine .g rfl (bt c1) (faP fa25_1 rfl) <| .g rfl (bt c1) (ldP rfl sz3 ag3 rfl) <| .g rfl (bt c1) (faP fa25_1 rfl) <| .g rfl (bt c1) (ldP rfl sz3 ag3 rfl) <| .g rfl (bt c1) (eqI rfl rfl) <| .o (pkTV rfl (bt c1) rfl) <| .m rfl <| ?_
      by_cases c2 : a0.Dim = a1.Dim
      · exact (.g rfl (bt c2) (faP fa25_2 rfl) <| .g rfl (bt c2) (ldP rfl sz23 ag23 rfl) <| .g rfl (bt c2) (faP fa25_2 rfl) <| .g rfl (bt c2) (ldP rfl sz23 ag23 rfl) <| .callI (gT rfl rfl rfl (bt c2)) (callee_of rfl go59 rfl) (.pure rfl rfl (slices_EqualFunc_Space_Space_Space.D (k2_ := []) go33 rfl rfl (fun x0_ x1_ y_ h_ => hs33 _ _ y_ h_) (g2_17 c1 c2))) <| .o (pkTV rfl (bt c2) rfl) <| .a rfl <| .nilL _ ⟨cB rfl (mAndT (bt c1) (mAndT (bt c2) rfl)), trivial⟩)
      · exact (.n rfl (bn c2) <| .n rfl (bn c2) <| .n rfl (bn c2) <| .n rfl (bn c2) <| .n rfl (bn c2) <| .o (pkFV rfl (bn c2) rfl) <| .a rfl <| .nilL _ ⟨cB rfl (mAndT (bt c1) (mAndF (bn c2))), trivial⟩)
    · exact (.n rfl (bn c1) <| .n rfl (bn c1) <| .n rfl (bn c1) <| .n rfl (bn c1) <| .n rfl (bn c1) <| .o (pkFV rfl (bn c1) rfl) <| .m rfl <| .n rfl rfl <| .n rfl rfl <| .n rfl rfl <| .n rfl rfl <| .n rfl rfl <| .o (pkFV rfl rfl rfl) <| .a rfl <| .nilL _ ⟨cB rfl (mAndF (bn c1)), trivial⟩)
  replace h := h.symm
  subst h
  refine .kf [(4, bo ((a0.Tag == a1.Tag) && ((a0.Dim == a1.Dim) && t2_17)))] rfl rfl ?_
  exact .ret rfl
def weight_SameSpace.fN : Nat → TSpace → TSpace → Bool → Prop
  | 0 => fun _ _ _ => False
  | n + 1 => weight_SameSpace.step (weight_SameSpace.fN n)
theorem weight_SameSpace.ND : ∀ (n : Nat) {a0 : TSpace} {a1 : TSpace} {r : Bool} (h : weight_SameSpace.fN n a0 a1 r), D Tryz.prog X (.callH 33 [.agg (TSpace.lit a0), .agg (TSpace.lit a1)] [] (.val (.bool r)) [])
  | 0, _, _, _, h => h.elim
  | n + 1, _, _, _, h => weight_SameSpace.stepD (fun _ _ _ h => weight_SameSpace.ND n h) h
def weight_SameSpace.f (a0 : TSpace) (a1 : TSpace) (r : Bool) : Prop := ∃ n, weight_SameSpace.fN n a0 a1 r
theorem weight_SameSpace.D {a0 a1 r} (h : weight_SameSpace.f a0 a1 r) : D Tryz.prog X (.callH 33 [.agg (TSpace.lit a0), .agg (TSpace.lit a1)] [] (.val (.bool r)) []) := by obtain ⟨n, h⟩ := h; exact weight_SameSpace.ND n h
def r05_SameSpace.b1 (self34 : TSpace → TSpace → Bool → Prop) (a0 : TSpace) (a1 : TSpace) : Int → Rnd Int Unit Bool → Prop := fun x1 z1 => if x1 < (a0.Parts.length : Int) then (((InR x1 a0.Parts.length)) ∧ ((InR x1 a1.Parts.length)) ∧ ∃ t14_10 : Bool, (self34 (rdl a0.Parts x1) (rdl a1.Parts x1) t14_10) ∧ if t14_10 = true then (z1 = .next (IntKind.i64.wrap (x1 + 1))) else (z1 = .ret false)) else (z1 = .exit ())
def r05_SameSpace.step (self34 : TSpace → TSpace → Bool → Prop) (a0 : TSpace) (a1 : TSpace) (r : Bool) : Prop :=
  if ((!(a0.Tag == a1.Tag)) || ((!(a0.Dim == a1.Dim)) || ((a0.Parts.length : Int) != (a1.Parts.length : Int)))) = true then (r = false) else (∃ o1 : Fin Unit Bool, Loop (r05_SameSpace.b1 self34 a0 a1) 0 o1 ∧ o1.on (fun _ => r = true) (fun r_ => r = r_))
theorem r05_SameSpace.stepD {self34 : TSpace → TSpace → Bool → Prop} {a0 : TSpace} {a1 : TSpace} (hs34 : ∀ z0_ z1_ r_, self34 z0_ z1_ r_ → D Tryz.prog X (.callH 34 [.agg (TSpace.lit z0_), .agg (TSpace.lit z1_)] [] (.val (.bool r_)) [])) {r : Bool} (h : r05_SameSpace.step self34 a0 a1 r) : D Tryz.prog X (.callH 34 [.agg (TSpace.lit a0), .agg (TSpace.lit a1)] [] (.val (.bool r)) []) := by
  unfold r05_SameSpace.step at h
  refine .enter 46 0 fn34 rfl rfl rfl <| .seq <| .room 0 <| .room 0 <| .reg0 rfl (.op 0 rfl (bxP (s := 3) (cs := (TSpace.lit a0)) rfl ⟨rfl, by decide, rfl⟩ rfl) <| .op 1 rfl (bxP (s := 3) (cs := (TSpace.lit a1)) rfl ⟨rfl, by decide, rfl⟩ rfl) <| .op 0 rfl (asV rfl) <| .nil0) <| .seq <| .seq ?_
  refine .reg0 (e1 := listEnv [(2, .ptr 0 1 3 0 0), (3, .ptr 1 1 3 0 0), (26, bo ((!(a0.Tag == a1.Tag)) || ((!(a0.Dim == a1.Dim)) || ((a0.Parts.length : Int) != (a1.Parts.length : Int)))))]) (H1 := [⟨3, [(TSpace.lit a0)], 0, none⟩, ⟨3, [(TSpace.lit a1)], 0, none⟩]) rfl ?_ ?_
  · refine .o (faP fa25_0 rfl) <| .o (ldP rfl sz22 ag22 rfl) <| .o (faP fa25_0 rfl) <| .o (ldP rfl sz22 ag22 rfl) <| .o (neI rfl rfl) <| .m rfl <| ?_
    by_cases c1 : a0.Tag = a1.Tag
    · refine .g rfl (nf c1) (faP fa25_1 rfl) <| .g rfl (nf c1) (ldP rfl sz3 ag3 rfl) <| .g rfl (nf c1) (faP fa25_1 rfl) <| .g rfl (nf c1) (ldP rfl sz3 ag3 rfl) <| .g rfl (nf c1) (neI rfl rfl) <| .o (pkFV rfl (nf c1) rfl) <| .m rfl <| ?_
      by_cases c2 : a0.Dim = a1.Dim
      · exact (.g rfl (nf c2) (faP fa25_2 rfl) <| .g rfl (nf c2) (ldP rfl sz23 ag23 rfl) <| .g rfl (nf c2) (lnR (l := a0.Parts) sl23 rfl) <| .g rfl (nf c2) (faP fa25_2 rfl) <| .g rfl (nf c2) (ldP rfl sz23 ag23 rfl) <| .g rfl (nf c2) (lnR (l := a1.Parts) sl23 rfl) <| .g rfl (nf c2) (neI rfl rfl) <| .o (pkFV rfl (nf c2) rfl) <| .nilL _ ⟨.ptr rfl, .ptr rfl, cB rfl (mOrF (bnotF (bt c1)) (mOrF (bnotF (bt c2)) rfl)), trivial⟩)
      · exact (.n rfl (nt c2) <| .n rfl (nt c2) <| .n rfl (nt c2) <| .n rfl (nt c2) <| .n rfl (nt c2) <| .n rfl (nt c2) <| .n rfl (nt c2) <| .o (pkTV rfl (nt c2) rfl) <| .nilL _ ⟨.ptr rfl, .ptr rfl, cB rfl (mOrF (bnotF (bt c1)) (mOrT (bnotT (bn c2)))), trivial⟩)
    · exact (.n rfl (nt c1) <| .n rfl (nt c1) <| .n rfl (nt c1) <| .n rfl (nt c1) <| .n rfl (nt c1) <| .o (pkTV rfl (nt c1) rfl) <| .m rfl <| .n rfl rfl <| .n rfl rfl <| .n rfl rfl <| .n rfl rfl <| .n rfl rfl <| .n rfl rfl <| .n rfl rfl <| .o (pkTV rfl rfl rfl) <| .nilL _ ⟨.ptr rfl, .ptr rfl, cB rfl (mOrT (bnotT (bn c1))), trivial⟩)
  by_cases c3 : ((!(a0.Tag == a1.Tag)) || ((!(a0.Dim == a1.Dim)) || ((a0.Parts.length : Int) != (a1.Parts.length : Int)))) = true
  · rw [if_pos c3] at h
    refine .condT rfl c3 <| .seq <| .reg0 rfl (.op 0 rfl (asV rfl) <| .nil0) ?_
    replace h := h.symm
    subst h
    refine .kf [(4, bo false)] rfl rfl ?_
    exact .ret rfl
  · rw [if_neg c3] at h
    refine .condF rfl (nb c3) <| .skip <| .seq <| .seq <| .reg0 rfl (.op 0 rfl (asV rfl) <| .nil0) <| .block <| .keepL [0, 1] [(2, .ptr 0 1 3 0 0), (3, .ptr 1 1 3 0 0), (5, i6 0)] [⟨3, [(TSpace.lit a0)], 0, none⟩, ⟨3, [(TSpace.lit a1)], 0, none⟩] (by decide) (by decide) ⟨.ptr rfl, .ptr rfl, .free rfl rfl, trivial⟩ ⟨⟨_, rfl, bcBox (all2_free rfl)⟩, ⟨_, rfl, bcBox (all2_free rfl)⟩, trivial⟩ ?_
    obtain ⟨o1, hL1, h⟩ := h
    refine .loopB (r05_SameSpace.b1 self34 a0 a1) (fun x1 => listEnv [(2, .ptr 0 1 3 0 0), (3, .ptr 1 1 3 0 0), (5, i6 x1)]) (fun x1 => [⟨3, [(TSpace.lit a0)], 0, none⟩, ⟨3, [(TSpace.lit a1)], 0, none⟩]) (fun _ => listEnv []) (fun _ => []) hL1 (fun r_ => r = r_) ?_ ?_ ?_
    · rintro ⟨⟩ rfl
      try dsimp only [Fin.on] at h
      refine .seq <| .reg0 rfl (.op 0 rfl (asV rfl) <| .nil0) ?_
      replace h := h.symm
      subst h
      refine .kf [(4, bo true)] rfl rfl ?_
      exact .ret rfl
    · rintro r_ rfl
      exact h
    · rintro x1 z1 h hn1 hx1 hr1
      dsimp only [r05_SameSpace.b1] at h
      refine .seq <| .seq <| .reg0 rfl (.op 0 rfl (mvV rfl) <| .op 0 rfl (faP fa25_2 rfl) <| .op 0 rfl (ldP rfl sz23 ag23 rfl) <| .op 0 rfl (lnR (l := a0.Parts) sl23 rfl) <| .op 0 rfl (ltI rfl rfl) <| .nil0) ?_
      by_cases c8 : x1 < (a0.Parts.length : Int)
      · rw [if_pos c8] at h
        refine .condT rfl (dt c8) <| .skip <| .seq <| .block <| .seq ?_
        obtain ⟨g14_3, h⟩ := h
        obtain ⟨g14_8, h⟩ := h
        obtain ⟨t14_10, g14_10, h⟩ := h
        refine .reg1 (e1 := listEnv [(2, .ptr 0 1 3 0 0), (3, .ptr 1 1 3 0 0), (5, i6 x1), (45, bo (!t14_10))]) (H1 := [⟨3, [(TSpace.lit a0)], 0, none⟩, ⟨3, [(TSpace.lit a1)], 0, none⟩]) rfl ?_ ?_
        · exact .drawM [(11, 45, bo (!t14_10)), (10, 44, bo t14_10), (9, 43, .agg (TSpace.lit (rdl a1.Parts x1))), (8, 42, .cptr (TSpace.lit (rdl a1.Parts x1)) 0), (7, 41, i6 x1), (6, 40, .rows (a1.Parts.map TSpace.cells)), (5, 39, .ptr 1 1 3 0 2), (4, 38, .agg (TSpace.lit (rdl a0.Parts x1))), (3, 37, .cptr (TSpace.lit (rdl a0.Parts x1)) 0), (2, 36, i6 x1), (1, 35, .rows (a0.Parts.map TSpace.cells)), (0, 34, .ptr 0 1 3 0 2)] [] [[], [0], [], [1, 0, 2], [3, 1, 0, 2], [], [5], [], [6, 5, 7], [8, 6, 5, 7], [4, 3, 1, 0, 2, 9, 8, 6, 5, 7], [10, 4, 3, 1, 0, 2, 9, 8, 6, 5, 7]] (by rfl) (by rfl) (by rfl) (by exact ⟨oP (fun _ => faP fa25_2 rfl) rfl, oP (fun _ => ldP rfl sz23 ag23 rfl) rfl, oP (fun _ => mvV rfl) rfl, oP (fun _ => ixR (l := a0.Parts) (lit := TSpace.lit) sl23 rfl rfl TSpace.cells_lit g14_3.1 g14_3.2) rfl, oP (fun _ => ldCG rfl sz25 ag25 rfl) rfl, oP (fun _ => faP fa25_2 rfl) rfl, oP (fun _ => ldP rfl sz23 ag23 rfl) rfl, oP (fun _ => mvV rfl) rfl, oP (fun _ => ixR (l := a1.Parts) (lit := TSpace.lit) sl23 rfl rfl TSpace.cells_lit g14_8.1 g14_8.2) rfl, oP (fun _ => ldCG rfl sz25 ag25 rfl) rfl, fun S hS hD hn => .oneI hS hD hn rfl rfl (callee_of rfl go34 rfl) (.pure rfl rfl (hs34 _ _ _ g14_10)) rfl rfl rfl, oP (fun _ => notB rfl) rfl, trivial⟩) _ (by exact ⟨.ptr rfl, .ptr rfl, .free rfl rfl, .free rfl rfl, trivial⟩) (by rfl)
        by_cases c9 : t14_10 = true
        · rw [if_pos c9] at h
          refine .condF rfl (bnotF c9) <| .skip <| .inBlock <| .reg0 rfl (.op 0 rfl (mvV rfl) <| .op 0 rfl (addI rfl rfl) <| .op 0 rfl (asV rfl) <| .nil0) <| .keepL [0, 1] [(2, .ptr 0 1 3 0 0), (3, .ptr 1 1 3 0 0), (5, i6 (IntKind.i64.wrap (x1 + 1)))] [⟨3, [(TSpace.lit a0)], 0, none⟩, ⟨3, [(TSpace.lit a1)], 0, none⟩] (by decide) (by decide) ⟨.ptr rfl, .ptr rfl, .free rfl rfl, trivial⟩ ⟨⟨_, rfl, bcBox (all2_free rfl)⟩, ⟨_, rfl, bcBox (all2_free rfl)⟩, trivial⟩ ?_
          exact hn1 _ h
        · rw [if_neg c9] at h
          refine .condT rfl (bnotT (nb c9)) <| .seq <| .reg0 rfl (.op 0 rfl (asV rfl) <| .nil0) ?_
          have q3 := hr1 _ h
          replace q3 := q3.symm
          subst q3
          refine .kf [(4, bo false)] rfl rfl ?_
          exact .ret rfl
      · rw [if_neg c8] at h
        refine .condF rfl (df c8) <| .exit rfl <| .keepL [] [] [] (by decide) (by decide) trivial trivial ?_
        exact hx1 _ h
def r05_SameSpace.fN : Nat → TSpace → TSpace → Bool → Prop
  | 0 => fun _ _ _ => False
  | n + 1 => r05_SameSpace.step (r05_SameSpace.fN n)
theorem r05_SameSpace.ND : ∀ (n : Nat) {a0 : TSpace} {a1 : TSpace} {r : Bool} (h : r05_SameSpace.fN n a0 a1 r), D Tryz.prog X (.callH 34 [.agg (TSpace.lit a0), .agg (TSpace.lit a1)] [] (.val (.bool r)) [])
  | 0, _, _, _, h => h.elim
  | n + 1, _, _, _, h => r05_SameSpace.stepD (fun _ _ _ h => r05_SameSpace.ND n h) h
def r05_SameSpace.f (a0 : TSpace) (a1 : TSpace) (r : Bool) : Prop := ∃ n, r05_SameSpace.fN n a0 a1 r
theorem r05_SameSpace.D {a0 a1 r} (h : r05_SameSpace.f a0 a1 r) : D Tryz.prog X (.callH 34 [.agg (TSpace.lit a0), .agg (TSpace.lit a1)] [] (.val (.bool r)) []) := by obtain ⟨n, h⟩ := h; exact r05_SameSpace.ND n h
end Go.RM.Tryz
