/- GJ, for the statement WeightStops: what it needs, no more. -/
import Derived.Test.YthjbpjpcddegfaaGreatDoorZWeightStopsGI
set_option linter.unusedVariables false
set_option maxRecDepth 8000
set_option maxHeartbeats 4000000
namespace Go.RM.Tryz
open Go.RM Go.Proofs
abbrev GJ_c0 : List PV := [bo false, i6 0, u6 0, nul, nul, nul]
abbrev GJ_c1 : List PV := [bo false, i6 0, u6 0, .rows (([] : List Int).map (cInt .u64)), .rows (([] : List TCell).map TCell.cells), .rows (([] : List TWeight).map TWeight.cells)]
def cost_Height.f (a0 : Int) (r : Int × Int) : Prop :=
  ∃ t2_1 : Int, (cost_checks.f a0 [] t2_1) ∧ if t2_1 = 0 then (r = ((IntKind.i64.wrap (a0 + 1)), 0)) else (r = (0, t2_1))
theorem cost_Height.D {a0 r} (h : cost_Height.f a0 r) : D Tryz.prog X (.callH 52 [.val (.int .i64 a0)] [] (.tuple [.val (.int .i64 r.1), .val (.int .i64 r.2)]) []) := by
  unfold cost_Height.f at h
  refine .enter 12 0 fn52 rfl rfl rfl <| .seq <| .reg0 rfl (.op 0 rfl (asV rfl) <| .op 0 rfl (asV rfl) <| .nil0) <| .seq <| .seq ?_
  obtain ⟨t2_1, g2_1, h⟩ := h
  refine .reg0 rfl (.m rfl <| .callI rfl (callee_of rfl go88 rfl) (.lendC (args' := [i6 a0, .rows (([] : List Int).map (cInt .i64))])  [] false (.cons (.free rfl rfl) <| .cons (.nil) <| .nil) (by decide) rfl rfl rfl rfl (cost_checks.D g2_1)) <| .a rfl <| .nil0) <| .seq <| .reg0 rfl (.op 0 rfl (mvV rfl) <| .op 0 rfl (neI rfl rfl) <| .nil0) ?_
  by_cases c1 : t2_1 = 0
  · rw [if_pos c1] at h
    refine .condF rfl (nf c1) <| .skip <| .seq <| .reg0 rfl (.op 0 rfl (mvV rfl) <| .op 0 rfl (addI rfl rfl) <| .op 0 rfl (asV rfl) <| .op 0 rfl (asV rfl) <| .nil0) ?_
    replace h := h.symm
    subst h
    refine .kf [(2, i6 (IntKind.i64.wrap (a0 + 1))), (3, i6 0)] rfl rfl ?_
    exact .ret rfl
  · rw [if_neg c1] at h
    refine .condT rfl (nt c1) <| .seq <| .reg0 rfl (.op 0 rfl (mvV rfl) <| .op 0 rfl (asV rfl) <| .op 0 rfl (asV rfl) <| .nil0) ?_
    replace h := h.symm
    subst h
    refine .kf [(2, i6 0), (3, i6 t2_1)] rfl rfl ?_
    exact .ret rfl
def cells_Height.f (a0 : Int) (r : Int × Int) : Prop :=
  ∃ t2_1 : Int, (cells_dims.f a0 t2_1) ∧ if t2_1 = 0 then (r = ((IntKind.i64.wrap (a0 * (IntKind.i64.wrap (a0 + 2)))), 0)) else (r = (0, t2_1))
theorem cells_Height.D {a0 r} (h : cells_Height.f a0 r) : D Tryz.prog X (.callH 53 [.val (.int .i64 a0)] [] (.tuple [.val (.int .i64 r.1), .val (.int .i64 r.2)]) []) := by
  unfold cells_Height.f at h
  refine .enter 14 0 fn53 rfl rfl rfl <| .seq <| .reg0 rfl (.op 0 rfl (asV rfl) <| .op 0 rfl (asV rfl) <| .nil0) <| .seq <| .seq ?_
  obtain ⟨t2_1, g2_1, h⟩ := h
  refine .reg0 rfl (.m rfl <| .c rfl go89 rfl rfl rfl (cells_dims.D g2_1) <| .a rfl <| .nil0) <| .seq <| .reg0 rfl (.op 0 rfl (mvV rfl) <| .op 0 rfl (neI rfl rfl) <| .nil0) ?_
  by_cases c1 : t2_1 = 0
  · rw [if_pos c1] at h
    refine .condF rfl (nf c1) <| .skip <| .seq <| .reg0 rfl (.op 0 rfl (mvV rfl) <| .op 0 rfl (mvV rfl) <| .op 0 rfl (addI rfl rfl) <| .op 0 rfl (mulI rfl rfl) <| .op 0 rfl (asV rfl) <| .op 0 rfl (asV rfl) <| .nil0) ?_
    replace h := h.symm
    subst h
    refine .kf [(2, i6 (IntKind.i64.wrap (a0 * (IntKind.i64.wrap (a0 + 2))))), (3, i6 0)] rfl rfl ?_
    exact .ret rfl
  · rw [if_neg c1] at h
    refine .condT rfl (nt c1) <| .seq <| .reg0 rfl (.op 0 rfl (mvV rfl) <| .op 0 rfl (asV rfl) <| .op 0 rfl (asV rfl) <| .nil0) ?_
    replace h := h.symm
    subst h
    refine .kf [(2, i6 0), (3, i6 t2_1)] rfl rfl ?_
    exact .ret rfl
def weight_Height.step (self25 : TSpace → (Int × Int) → Prop) (a0 : TSpace) (r : Int × Int) : Prop :=
  ∃ t2_1 : Int, (weight_Space.f a0 t2_1) ∧ if t2_1 = 0 then (if a0.Tag = 2 then (∃ t6_2 : Int × Int, (cost_Height.f a0.Dim t6_2) ∧ r = (t6_2.1, t6_2.2)) else (if a0.Tag = 3 then (r = ((IntKind.i64.wrap ((IntKind.i64.wrap (a0.Dim * (IntKind.i64.wrap (a0.Dim + 1)))) + 1)), 0)) else (if a0.Tag = 4 then (∃ t10_2 : Int × Int, (cells_Height.f a0.Dim t10_2) ∧ r = ((IntKind.i64.wrap (t10_2.1 + 1)), t10_2.2)) else (if a0.Tag = 5 then (((InR 0 a0.Parts.length)) ∧ ∃ t13_4 : Int × Int, (self25 (rdl a0.Parts 0) t13_4) ∧ ((InR 1 a0.Parts.length)) ∧ ∃ t14_4 : Int × Int, (self25 (rdl a0.Parts 1) t14_4) ∧ r = ((IntKind.i64.wrap (t13_4.1 + t14_4.1)), 0)) else (r = (1, 0)))))) else (r = (0, t2_1))
theorem weight_Height.stepD {self25 : TSpace → (Int × Int) → Prop} {a0 : TSpace} (hs25 : ∀ z0_ r_, self25 z0_ r_ → D Tryz.prog X (.callH 25 [.agg (TSpace.lit z0_)] [] (.tuple [.val (.int .i64 r_.1), .val (.int .i64 r_.2)]) [])) {r : Int × Int} (h : weight_Height.step self25 a0 r) : D Tryz.prog X (.callH 25 [.agg (TSpace.lit a0)] [] (.tuple [.val (.int .i64 r.1), .val (.int .i64 r.2)]) []) := by
  unfold weight_Height.step at h
  refine .enter 66 0 fn25 rfl rfl rfl <| .seq <| .room 0 <| .reg0 rfl (.op 0 rfl (bxP (s := 3) (cs := (TSpace.lit a0)) rfl ⟨rfl, by decide, rfl⟩ rfl) <| .op 0 rfl (asV rfl) <| .op 0 rfl (asV rfl) <| .nil0) <| .seq <| .seq ?_
  obtain ⟨t2_1, g2_1, h⟩ := h
  refine .reg0 rfl (.o (ldG rfl sz25 ag25 rfl) <| .c rfl go29 rfl rfl rfl (weight_Space.D g2_1) <| .a rfl <| .nil0) <| .seq <| .reg0 rfl (.op 0 rfl (mvV rfl) <| .op 0 rfl (neI rfl rfl) <| .nil0) ?_
  by_cases c1 : t2_1 = 0
  · rw [if_pos c1] at h
    refine .condF rfl (nf c1) <| .skip <| .seq <| .seq <| .reg0 rfl (.op 0 rfl (faP fa25_0 rfl) <| .op 0 rfl (ldP rfl sz22 ag22 rfl) <| .nil0) <| .block <| .seq <| .reg0 rfl (.op 0 rfl (eqI rfl rfl) <| .op 0 rfl (asV rfl) <| .nil0) ?_
    by_cases c2 : a0.Tag = 2
    · rw [if_pos c2] at h
      refine .condT rfl (bt c2) <| .seq ?_
      obtain ⟨t6_2, g6_2, h⟩ := h
      refine .reg0 rfl (.o (faP fa25_1 rfl) <| .o (ldP rfl sz3 ag3 rfl) <| .c rfl go52 rfl rfl rfl (cost_Height.D g6_2) <| .o (exT rfl rfl) <| .o (exT rfl rfl) <| .a rfl <| .a rfl <| .nil0) ?_
      replace h := h.symm
      subst h
      refine .kf [(2, i6 t6_2.1), (3, i6 t6_2.2)] rfl rfl ?_
      exact .ret rfl
    · rw [if_neg c2] at h
      refine .condF rfl (bn c2) <| .seq <| .reg0 rfl (.op 0 rfl (eqI rfl rfl) <| .op 0 rfl (asV rfl) <| .nil0) ?_
      by_cases c3 : a0.Tag = 3
      · rw [if_pos c3] at h
        refine .condT rfl (bt c3) <| .seq <| .reg0 rfl (.op 0 rfl (faP fa25_1 rfl) <| .op 0 rfl (ldP rfl sz3 ag3 rfl) <| .op 0 rfl (faP fa25_1 rfl) <| .op 0 rfl (ldP rfl sz3 ag3 rfl) <| .op 0 rfl (addI rfl rfl) <| .op 0 rfl (mulI rfl rfl) <| .op 0 rfl (addI rfl rfl) <| .op 0 rfl (asV rfl) <| .op 0 rfl (asV rfl) <| .nil0) ?_
        replace h := h.symm
        subst h
        refine .kf [(2, i6 (IntKind.i64.wrap ((IntKind.i64.wrap (a0.Dim * (IntKind.i64.wrap (a0.Dim + 1)))) + 1))), (3, i6 0)] rfl rfl ?_
        exact .ret rfl
      · rw [if_neg c3] at h
        refine .condF rfl (bn c3) <| .seq <| .reg0 rfl (.op 0 rfl (eqI rfl rfl) <| .op 0 rfl (asV rfl) <| .nil0) ?_
        by_cases c4 : a0.Tag = 4
        · rw [if_pos c4] at h
          refine .condT rfl (bt c4) <| .seq ?_
          obtain ⟨t10_2, g10_2, h⟩ := h
          refine .reg0 rfl (.o (faP fa25_1 rfl) <| .o (ldP rfl sz3 ag3 rfl) <| .c rfl go53 rfl rfl rfl (cells_Height.D g10_2) <| .o (mvT rfl) <| .o (exT rfl rfl) <| .o (exT rfl rfl) <| .a rfl <| .a rfl <| .nil0) <| .seq <| .reg0 rfl (.op 0 rfl (mvV rfl) <| .op 0 rfl (addI rfl rfl) <| .op 0 rfl (mvV rfl) <| .op 0 rfl (asV rfl) <| .op 0 rfl (asV rfl) <| .nil0) ?_
          replace h := h.symm
          subst h
          refine .kf [(2, i6 (IntKind.i64.wrap (t10_2.1 + 1))), (3, i6 t10_2.2)] rfl rfl ?_
          exact .ret rfl
        · rw [if_neg c4] at h
          refine .condF rfl (bn c4) <| .seq <| .reg0 rfl (.op 0 rfl (eqI rfl rfl) <| .op 0 rfl (asV rfl) <| .nil0) ?_
          by_cases c5 : a0.Tag = 5
          · rw [if_pos c5] at h
            refine .condT rfl (bt c5) <| .seq ?_
            obtain ⟨g13_2, h⟩ := h
            obtain ⟨t13_4, g13_4, h⟩ := h
            refine .reg0 rfl (.o (faP fa25_2 rfl) <| .o (ldP rfl sz23 ag23 rfl) <| .o (ixR (l := a0.Parts) (lit := TSpace.lit) sl23 rfl rfl TSpace.cells_lit g13_2.1 g13_2.2) <| .o (ldCG rfl sz25 ag25 rfl) <| .c rfl go25 rfl rfl rfl (hs25 _ _ g13_4) <| .o (mvT rfl) <| .o (exT rfl rfl) <| .o (exT rfl rfl) <| .a rfl <| .a rfl <| .nil0) <| .seq ?_
            obtain ⟨g14_2, h⟩ := h
            obtain ⟨t14_4, g14_4, h⟩ := h
            refine .reg0 rfl (.o (faP fa25_2 rfl) <| .o (ldP rfl sz23 ag23 rfl) <| .o (ixR (l := a0.Parts) (lit := TSpace.lit) sl23 rfl rfl TSpace.cells_lit g14_2.1 g14_2.2) <| .o (ldCG rfl sz25 ag25 rfl) <| .c rfl go25 rfl rfl rfl (hs25 _ _ g14_4) <| .o (mvT rfl) <| .o (exT rfl rfl) <| .o (exT rfl rfl) <| .a rfl <| .a rfl <| .nil0) <| .seq <| .reg0 (e1 := listEnv [(2, i6 (IntKind.i64.wrap (t13_4.1 + t14_4.1))), (3, i6 0)]) (H1 := [⟨3, [(TSpace.lit a0)], 0, none⟩]) rfl (.op 0 rfl (mvV rfl) <| .op 0 rfl (mvV rfl) <| .op 0 rfl (addI rfl rfl) <| .op 0 rfl (asV rfl) <| .op 0 rfl (asV rfl) <| .nilL _ ⟨.free rfl rfl, .free rfl rfl, trivial⟩) ?_
            replace h := h.symm
            subst h
            refine .kf [(2, i6 (IntKind.i64.wrap (t13_4.1 + t14_4.1))), (3, i6 0)] rfl rfl ?_
            exact .ret rfl
          · rw [if_neg c5] at h
            refine .condF rfl (bn c5) <| .skip <| .inBlock <| .seq <| .reg0 rfl (.op 0 rfl (asV rfl) <| .op 0 rfl (asV rfl) <| .nil0) ?_
            replace h := h.symm
            subst h
            refine .kf [(2, i6 1), (3, i6 0)] rfl rfl ?_
            exact .ret rfl
  · rw [if_neg c1] at h
    refine .condT rfl (nt c1) <| .seq <| .reg0 rfl (.op 0 rfl (mvV rfl) <| .op 0 rfl (asV rfl) <| .op 0 rfl (asV rfl) <| .nil0) ?_
    replace h := h.symm
    subst h
    refine .kf [(2, i6 0), (3, i6 t2_1)] rfl rfl ?_
    exact .ret rfl
def weight_Height.fN : Nat → TSpace → (Int × Int) → Prop
  | 0 => fun _ _ => False
  | n + 1 => weight_Height.step (weight_Height.fN n)
theorem weight_Height.ND : ∀ (n : Nat) {a0 : TSpace} {r : Int × Int} (h : weight_Height.fN n a0 r), D Tryz.prog X (.callH 25 [.agg (TSpace.lit a0)] [] (.tuple [.val (.int .i64 r.1), .val (.int .i64 r.2)]) [])
  | 0, _, _, h => h.elim
  | n + 1, _, _, h => weight_Height.stepD (fun _ _ h => weight_Height.ND n h) h
def weight_Height.f (a0 : TSpace) (r : Int × Int) : Prop := ∃ n, weight_Height.fN n a0 r
theorem weight_Height.D {a0 r} (h : weight_Height.f a0 r) : D Tryz.prog X (.callH 25 [.agg (TSpace.lit a0)] [] (.tuple [.val (.int .i64 r.1), .val (.int .i64 r.2)]) []) := by obtain ⟨n, h⟩ := h; exact weight_Height.ND n h
def weight_Zero.f (a0 : TSpace) (r : TWeight × Int) : Prop :=
  ∃ t2_1 : Int, (weight_Space.f a0 t2_1) ∧ if t2_1 = 0 then (∃ t4_1 : TWeight, (weight_zero.f a0 t4_1) ∧ r = (t4_1, 0)) else (r = ((TWeight.mk false 0 (TFacts.mk 0 []) [] []), t2_1))
theorem weight_Zero.D {a0 r} (h : weight_Zero.f a0 r) : D Tryz.prog X (.callH 14 [.agg (TSpace.lit a0)] [] (.tuple [.agg (TWeight.lit r.1), .val (.int .i64 r.2)]) []) := by
  unfold weight_Zero.f at h
  refine .enter 13 0 fn14 rfl rfl rfl <| .seq <| .room 0 <| .room 0 <| .reg0 rfl (.op 0 rfl (bxP (s := 3) (cs := (TSpace.lit a0)) rfl ⟨rfl, by decide, rfl⟩ rfl) <| .op 1 rfl (alP (s := 6) ze33 ⟨rfl, by decide, rfl⟩ rfl) <| .op 0 rfl (asV rfl) <| .nil0) <| .seq <| .seq ?_
  obtain ⟨t2_1, g2_1, h⟩ := h
  refine .reg0 rfl (.o (ldG rfl sz25 ag25 rfl) <| .c rfl go29 rfl rfl rfl (weight_Space.D g2_1) <| .a rfl <| .nil0) <| .seq <| .reg0 rfl (.op 0 rfl (mvV rfl) <| .op 0 rfl (neI rfl rfl) <| .nil0) ?_
  by_cases c1 : t2_1 = 0
  · rw [if_pos c1] at h
    refine .condF rfl (nf c1) <| .skip <| .seq ?_
    obtain ⟨t4_1, g4_1, h⟩ := h
    refine .reg0 rfl (.o (ldG rfl sz25 ag25 rfl) <| .c rfl go41 rfl rfl rfl (weight_zero.D g4_1) <| .o (stB (cs0 := GJ_c0) (cs := (TWeight.lit t4_1)) (cs1 := (TWeight.lit t4_1)) rfl rfl sz33 rfl ⟨Nat.le_of_ble_eq_true rfl, rfl⟩ rfl) <| .a rfl <| .nil0) ?_
    replace h := h.symm
    subst h
    refine .k [(2, .cptr (TWeight.lit t4_1) 0), (3, i6 0)] ⟨cFixP rfl rfl (.cons (.free rfl rfl) <| .cons (.free rfl rfl) <| .cons (.free rfl rfl) <| .cons (.free rfl rfl) <| .cons (.free rfl rfl) <| .cons (.free rfl rfl) <| .nil), .free rfl rfl, trivial⟩ ?_
    exact .ret rfl
  · rw [if_neg c1] at h
    refine .condT rfl (nt c1) <| .seq <| .reg0 rfl (.op 0 rfl (bldS (cs := GJ_c0) ze33 pl33 rfl rfl) <| .op 0 rfl (mvV rfl) <| .op 0 rfl (stB (cs0 := GJ_c0) (cs := GJ_c0) (cs1 := GJ_c0) rfl rfl sz33 rfl ⟨Nat.le_of_ble_eq_true rfl, rfl⟩ rfl) <| .op 0 rfl (asV rfl) <| .nil0) ?_
    replace h := h.symm
    subst h
    refine .k [(2, .cptr GJ_c1 0), (3, i6 t2_1)] ⟨cFixP rfl rfl (.cons (.free rfl rfl) <| .cons (.free rfl rfl) <| .cons (.free rfl rfl) <| .cons (.nil) <| .cons (.nil) <| .cons (.nil) <| .nil), .free rfl rfl, trivial⟩ ?_
    exact .ret rfl
def r05_Check.f (a0 : TSpace) (a1 : TWeight) (r : Int) : Prop :=
  ∃ t2_1 : Int, (r05_Space.f a0 t2_1) ∧ if t2_1 = 0 then (∃ t4_2 : Bool, (r05_is.f a0 a1 t4_2) ∧ if t4_2 = true then (r = 0) else (r = 51)) else (r = t2_1)
theorem r05_Check.D {a0 a1 r} (h : r05_Check.f a0 a1 r) : D Tryz.prog X (.callH 11 [.agg (TSpace.lit a0), .agg (TWeight.lit a1)] [] (.val (.int .i64 r)) []) := by
  unfold r05_Check.f at h
  refine .enter 15 0 fn11 rfl rfl rfl <| .seq <| .room 0 <| .room 0 <| .reg0 rfl (.op 0 rfl (bxP (s := 3) (cs := (TSpace.lit a0)) rfl ⟨rfl, by decide, rfl⟩ rfl) <| .op 1 rfl (bxP (s := 6) (cs := (TWeight.lit a1)) rfl ⟨rfl, by decide, rfl⟩ rfl) <| .op 0 rfl (asV rfl) <| .nil0) <| .seq ?_
  obtain ⟨t2_1, g2_1, h⟩ := h
  refine .reg0 rfl (.o (ldG rfl sz25 ag25 rfl) <| .c rfl go30 rfl rfl rfl (r05_Space.D g2_1) <| .a rfl <| .nil0) <| .seq <| .seq <| .reg0 rfl (.op 0 rfl (mvV rfl) <| .op 0 rfl (neI rfl rfl) <| .nil0) ?_
  by_cases c1 : t2_1 = 0
  · rw [if_pos c1] at h
    refine .condF rfl (nf c1) <| .skip <| .seq <| .seq ?_
    obtain ⟨t4_2, g4_2, h⟩ := h
    refine .reg0 rfl (.o (ldG rfl sz25 ag25 rfl) <| .o (ldG rfl sz33 ag33 rfl) <| .c rfl go39 rfl rfl rfl (r05_is.D g4_2) <| .o (notB rfl) <| .nil0) ?_
    by_cases c2 : t4_2 = true
    · rw [if_pos c2] at h
      refine .condF rfl (bnotF c2) <| .skip <| .seq <| .reg0 rfl (.op 0 rfl (asV rfl) <| .nil0) ?_
      replace h := h.symm
      subst h
      refine .kf [(4, i6 0)] rfl rfl ?_
      exact .ret rfl
    · rw [if_neg c2] at h
      refine .condT rfl (bnotT (nb c2)) <| .seq <| .reg0 rfl (.op 0 rfl (asV rfl) <| .nil0) ?_
      replace h := h.symm
      subst h
      refine .kf [(4, i6 51)] rfl rfl ?_
      exact .ret rfl
  · rw [if_neg c1] at h
    refine .condT rfl (nt c1) <| .seq <| .reg0 rfl (.op 0 rfl (mvV rfl) <| .op 0 rfl (asV rfl) <| .nil0) ?_
    replace h := h.symm
    subst h
    refine .kf [(4, i6 t2_1)] rfl rfl ?_
    exact .ret rfl
def l05_combine.f (a0 : TSpace) (a1 : List TWeight) (r : TWeight) : Prop :=
  ∃ t2_2 : TWeight × Int, (weight_Combine.f a0 a1 t2_2) ∧ r = t2_2.1
theorem l05_combine.D {a0 a1 r} (h : l05_combine.f a0 a1 r) : D Tryz.prog X (.callH 16 [.agg (TSpace.lit a0), .rows (a1.map TWeight.cells)] [] (.agg (TWeight.lit r)) []) := by
  unfold l05_combine.f at h
  refine .enter 14 0 fn16 rfl rfl rfl <| .seq <| .room 0 <| .room 0 <| .reg0 rfl (.op 0 rfl (bxP (s := 3) (cs := (TSpace.lit a0)) rfl ⟨rfl, by decide, rfl⟩ rfl) <| .op 1 rfl (alP (s := 6) ze33 ⟨rfl, by decide, rfl⟩ rfl) <| .nil0) <| .seq ?_
  obtain ⟨t2_2, g2_2, h⟩ := h
  refine .room 0 <| .reg0 rfl (.op 0 rfl (ldG rfl sz25 ag25 rfl) <| .op 0 rfl (mvR rfl) <| .callI rfl (callee_of rfl go19 rfl) (.pure rfl rfl (weight_Combine.D g2_2)) <| .op 0 rfl (mvT rfl) <| .op 0 rfl (exT rfl rfl) <| .op 0 rfl (exT rfl rfl) <| .op 2 rfl (alP (s := 6) ze33 ⟨rfl, by decide, rfl⟩ rfl) <| .op 0 rfl (stB (cs0 := GJ_c0) (cs := (TWeight.lit t2_2.1)) (cs1 := (TWeight.lit t2_2.1)) rfl rfl sz33 rfl ⟨Nat.le_of_ble_eq_true rfl, rfl⟩ rfl) <| .op 0 rfl (asV rfl) <| .nil0) ?_
  refine .seq <| .reg0 rfl (.op 0 rfl (ldG rfl sz33 ag33 rfl) <| .op 0 rfl (stB (cs0 := GJ_c0) (cs := (TWeight.lit t2_2.1)) (cs1 := (TWeight.lit t2_2.1)) rfl rfl sz33 rfl ⟨Nat.le_of_ble_eq_true rfl, rfl⟩ rfl) <| .nil0) ?_
  replace h := h.symm
  subst h
  refine .k [(4, .cptr (TWeight.lit t2_2.1) 0)] ⟨cFixP rfl rfl (.cons (.free rfl rfl) <| .cons (.free rfl rfl) <| .cons (.free rfl rfl) <| .cons (.free rfl rfl) <| .cons (.free rfl rfl) <| .cons (.free rfl rfl) <| .nil), trivial⟩ ?_
  exact .ret rfl
def l05_WeightStops.j1 (x17 : Int) : (Bool × Int × Int × (List Int) × (List TCell) × (List TWeight) × Int) → (Rnd ((Bool × Int × Int × (List Int) × (List TCell) × (List TWeight) × Int × Int)) Int Bool) → Prop := fun (x29, x30, x31, x32, x33, x34, x35) z1 => z1 = .next (x29, x30, x31, x32, x33, x34, x35, (IntKind.i64.wrap (x17 + 1)))
def l05_WeightStops.j2 (x17 : Int) (t46_7 : TWeight) : Int → (Rnd ((Bool × Int × Int × (List Int) × (List TCell) × (List TWeight) × Int × Int)) Int Bool) → Prop := fun x36 z1 => l05_WeightStops.j1 x17 (t46_7.Zero, t46_7.Cost, t46_7.Facts.Gen, t46_7.Facts.Rows, t46_7.Cells, t46_7.Parts, x36) z1
def l05_WeightStops.b1 (a0 : TSpace) (a1 : List TWeight) : (Bool × Int × Int × (List Int) × (List TCell) × (List TWeight) × Int × Int) → Rnd ((Bool × Int × Int × (List Int) × (List TCell) × (List TWeight) × Int × Int)) Int Bool → Prop := fun (x10, x11, x12, x13, x14, x15, x16, x17) z1 => if ((decide (x17 < (a1.length : Int))) && (decide (x17 < 200))) = true then (((InR x17 a1.length)) ∧ ∃ t45_4 : Bool, (l05_small.f (rdl a1 x17) 0 t45_4) ∧ ((t45_4 = true) → (InR x17 a1.length)) ∧ ∃ t45_12 : Int, ((t45_4 = true) → r05_Check.f a0 (rdl a1 x17) t45_12) ∧ if ((!t45_4) || (t45_12 != 0)) = true then (l05_WeightStops.j1 x17 (x10, x11, x12, x13, x14, x15, x16) z1) else (((InR x17 a1.length)) ∧ ∃ t46_7 : TWeight, (l05_combine.f a0 [(TWeight.mk x10 x11 (TFacts.mk x12 x13) x14 x15), (rdl a1 x17)] t46_7) ∧ ∃ t47_2 : Bool, (r05_Same.f t46_7 (TWeight.mk x10 x11 (TFacts.mk x12 x13) x14 x15) t47_2) ∧ if t47_2 = true then (l05_WeightStops.j2 x17 t46_7 x16 z1) else (l05_WeightStops.j2 x17 t46_7 (IntKind.i64.wrap (x16 + 1)) z1))) else (z1 = .exit x16)
def l05_WeightStops.f (a0 : TSpace) (a1 : List TWeight) (r : Bool) : Prop :=
  ∃ t2_1 : Bool, (l05_smallSpace.f a0 0 t2_1) ∧ if t2_1 = true then (∃ t3_1 : Int × Int, (weight_Height.f a0 t3_1) ∧ ∃ t4_1 : TWeight × Int, (weight_Zero.f a0 t4_1) ∧ if ((!(t3_1.2 == 0)) || (t4_1.2 != 0)) = true then (∃ t6_4 : Bool, ((t3_1.2 = t4_1.2) → l05_alive.f t6_4) ∧ r = ((t3_1.2 == t4_1.2) && t6_4)) else (∃ o1 : Fin Int Bool, Loop (l05_WeightStops.b1 a0 a1) (t4_1.1.Zero, t4_1.1.Cost, t4_1.1.Facts.Gen, t4_1.1.Facts.Rows, t4_1.1.Cells, t4_1.1.Parts, 0, 0) o1 ∧ o1.on (fun x27 => ∃ t51_4 : Bool, ((x27 ≤ t3_1.1) → l05_alive.f t51_4) ∧ r = ((decide (x27 ≤ t3_1.1)) && t51_4)) (fun r_ => r = r_))) else (∃ t52_0 : Bool, (l05_alive.f t52_0) ∧ r = t52_0)
abbrev GJ_A1 : List (List Nat) := [[], [], [0, 1], [2, 0, 1], [3, 2, 0, 1], [4, 3, 2, 0, 1], [5, 4, 3, 2, 0, 1], [6, 5, 4, 3, 2, 0, 1], [6, 5, 4, 3, 2, 0, 1], [6, 5, 4, 3, 2, 0, 1], [8, 6, 5, 4, 3, 2, 0, 1, 9], [10, 8, 6, 5, 4, 3, 2, 0, 1, 9], [7, 6, 5, 4, 3, 2, 0, 1, 11, 10, 8, 9], [12, 7, 6, 5, 4, 3, 2, 0, 1, 11, 10, 8, 9], [6, 5, 4, 3, 2, 0, 1, 13, 12, 7, 11, 10, 8, 9]]
theorem l05_WeightStops.D {a0 a1 r} (h : l05_WeightStops.f a0 a1 r) : D Tryz.prog X (.callH 5 [.agg (TSpace.lit a0), .rows (a1.map TWeight.cells)] [] (.val (.bool r)) []) := by
  unfold l05_WeightStops.f at h
  refine .enter 84 0 fn5 rfl rfl rfl <| .seq <| .room 0 <| .reg0 rfl (.op 0 rfl (bxP (s := 3) (cs := (TSpace.lit a0)) rfl ⟨rfl, by decide, rfl⟩ rfl) <| .op 0 rfl (asV rfl) <| .nil0) <| .seq <| .seq ?_
  obtain ⟨t2_1, g2_1, h⟩ := h
  refine .reg0 rfl (.o (ldG rfl sz25 ag25 rfl) <| .c rfl go9 rfl rfl rfl (l05_smallSpace.D g2_1) <| .o (notB rfl) <| .nil0) ?_
  by_cases c1 : t2_1 = true
  · rw [if_pos c1] at h
    refine .condF rfl (bnotF c1) <| .skip <| .seq ?_
    obtain ⟨t3_1, g3_1, h⟩ := h
    refine .reg0 rfl (.o (ldG rfl sz25 ag25 rfl) <| .c rfl go25 rfl rfl rfl (weight_Height.D g3_1) <| .o (mvT rfl) <| .o (exT rfl rfl) <| .o (exT rfl rfl) <| .a rfl <| .a rfl <| .nil0) <| .seq ?_
    obtain ⟨t4_1, g4_1, h⟩ := h
    refine .room 0 <| .reg0 rfl (.op 0 rfl (ldG rfl sz25 ag25 rfl) <| .callI rfl (callee_of rfl go14 rfl) (.pure rfl rfl (weight_Zero.D g4_1)) <| .op 0 rfl (mvT rfl) <| .op 0 rfl (exT rfl rfl) <| .op 0 rfl (exT rfl rfl) <| .op 1 rfl (alP (s := 6) ze33 ⟨rfl, by decide, rfl⟩ rfl) <| .op 0 rfl (stB (cs0 := GJ_c0) (cs := (TWeight.lit t4_1.1)) (cs1 := (TWeight.lit t4_1.1)) rfl rfl sz33 rfl ⟨Nat.le_of_ble_eq_true rfl, rfl⟩ rfl) <| .op 0 rfl (asV rfl) <| .nil0) ?_
    refine .seq <| .seq ?_
    refine .reg0 (e1 := listEnv [(1, .rows (a1.map TWeight.cells)), (2, .ptr 0 1 3 0 0), (5, i6 t3_1.1), (6, i6 t3_1.2), (7, .ptr 1 1 6 0 0), (8, i6 t4_1.2), (31, bo ((!(t3_1.2 == 0)) || (t4_1.2 != 0)))]) (H1 := [⟨3, [(TSpace.lit a0)], 0, none⟩, ⟨6, [(TWeight.lit t4_1.1)], 0, none⟩]) rfl ?_ ?_
    · refine .m rfl <| .o (neI rfl rfl) <| .m rfl <| ?_
      by_cases c2 : t3_1.2 = 0
      · exact (.g rfl (nf c2) (mvV rfl) <| .g rfl (nf c2) (neI rfl rfl) <| .o (pkFV rfl (nf c2) rfl) <| .nilL _ ⟨.free rfl rfl, .ptr rfl, .free rfl rfl, .free rfl rfl, .ptr rfl, .free rfl rfl, cB rfl (mOrF (bnotF (bt c2)) rfl), trivial⟩)
      · exact (.n rfl (nt c2) <| .n rfl (nt c2) <| .o (pkTV rfl (nt c2) rfl) <| .nilL _ ⟨.free rfl rfl, .ptr rfl, .free rfl rfl, .free rfl rfl, .ptr rfl, .free rfl rfl, cB rfl (mOrT (bnotT (bn c2))), trivial⟩)
    by_cases c3 : ((!(t3_1.2 == 0)) || (t4_1.2 != 0)) = true
    · rw [if_pos c3] at h
      refine .condT rfl c3 <| .seq ?_
      obtain ⟨t6_4, g6_4, h⟩ := h
      refine .reg0 (e1 := listEnv [(4, bo ((t3_1.2 == t4_1.2) && t6_4))]) (H1 := [⟨3, [(TSpace.lit a0)], 0, none⟩, ⟨6, [(TWeight.lit t4_1.1)], 0, none⟩]) rfl ?_ ?_
      · refine .m rfl <| .m rfl <| .o (eqI rfl rfl) <| .m rfl <| ?_
        by_cases c4 : t3_1.2 = t4_1.2
        · exact (.callI (gT rfl rfl rfl (bt c4)) (callee_of rfl go12 rfl) (.pure rfl rfl (l05_alive.D (g6_4 c4))) <| .o (pkTV rfl (bt c4) rfl) <| .a rfl <| .nilL _ ⟨cB rfl (mAndT (bt c4) rfl), trivial⟩)
        · exact (.n rfl (bn c4) <| .o (pkFV rfl (bn c4) rfl) <| .a rfl <| .nilL _ ⟨cB rfl (mAndF (bn c4)), trivial⟩)
      replace h := h.symm
      subst h
      refine .kf [(4, bo ((t3_1.2 == t4_1.2) && t6_4))] rfl rfl ?_
      exact .ret rfl
    · rw [if_neg c3] at h
      refine .condF rfl (nb c3) <| .skip <| .seq <| .reg0 rfl (.op 0 rfl (asV rfl) <| .nil0) <| .seq <| .seq <| .reg0 rfl (.op 0 rfl (asV rfl) <| .nil0) <| .block <| .keepL [0, 1] [(1, .rows (a1.map TWeight.cells)), (2, .ptr 0 1 3 0 0), (5, i6 t3_1.1), (7, .ptr 1 1 6 0 0), (9, i6 0), (10, i6 0)] [⟨3, [(TSpace.lit a0)], 0, none⟩, ⟨6, [(TWeight.lit t4_1.1)], 0, none⟩] (by decide) (by decide) ⟨.free rfl rfl, .ptr rfl, .free rfl rfl, .ptr rfl, .free rfl rfl, .free rfl rfl, trivial⟩ ⟨⟨_, rfl, bcBox (all2_free rfl)⟩, ⟨_, rfl, bcBox (all2_free rfl)⟩, trivial⟩ ?_
      obtain ⟨o1, hL1, h⟩ := h
      refine .loopB (l05_WeightStops.b1 a0 a1) (fun (x10, x11, x12, x13, x14, x15, x16, x17) => listEnv [(1, .rows (a1.map TWeight.cells)), (2, .ptr 0 1 3 0 0), (5, i6 t3_1.1), (7, .ptr 1 1 6 0 0), (9, i6 x16), (10, i6 x17)]) (fun (x10, x11, x12, x13, x14, x15, x16, x17) => [⟨3, [(TSpace.lit a0)], 0, none⟩, ⟨6, [[bo x10, i6 x11, u6 x12, .rows (x13.map (cInt .u64)), .rows (x14.map TCell.cells), .rows (x15.map TWeight.cells)]], 0, none⟩]) (fun x27 => listEnv [(5, i6 t3_1.1), (9, i6 x27)]) (fun x27 => []) hL1 (fun r_ => r = r_) ?_ ?_ ?_
      · rintro x27 rfl
        try dsimp only [Fin.on] at h
        refine .seq ?_
        obtain ⟨t51_4, g51_4, h⟩ := h
        refine .reg0 (e1 := listEnv [(4, bo ((decide (x27 ≤ t3_1.1)) && t51_4))]) (H1 := []) rfl ?_ ?_
        · refine .m rfl <| .m rfl <| .o (leI rfl rfl) <| .m rfl <| ?_
          by_cases c35 : x27 ≤ t3_1.1
          · exact (.callI (gT rfl rfl rfl (dt c35)) (callee_of rfl go12 rfl) (.pure rfl rfl (l05_alive.D (g51_4 c35))) <| .o (pkTV rfl (dt c35) rfl) <| .a rfl <| .nilL _ ⟨cB rfl (mAndT (dt c35) rfl), trivial⟩)
          · exact (.n rfl (df c35) <| .o (pkFV rfl (df c35) rfl) <| .a rfl <| .nilL _ ⟨cB rfl (mAndF (df c35)), trivial⟩)
        replace h := h.symm
        subst h
        refine .kf [(4, bo ((decide (x27 ≤ t3_1.1)) && t51_4))] rfl rfl ?_
        exact .ret rfl
      · rintro r_ rfl
        exact h
      · rintro ⟨x10, x11, x12, x13, x14, x15, x16, x17⟩ z1 h hn1 hx1 hr1
        dsimp only [l05_WeightStops.b1] at h
        refine .seq <| .seq ?_
        refine .reg0 (e1 := listEnv [(1, .rows (a1.map TWeight.cells)), (2, .ptr 0 1 3 0 0), (5, i6 t3_1.1), (7, .ptr 1 1 6 0 0), (9, i6 x16), (10, i6 x17), (45, bo ((decide (x17 < (a1.length : Int))) && (decide (x17 < 200))))]) (H1 := [⟨3, [(TSpace.lit a0)], 0, none⟩, ⟨6, [[bo x10, i6 x11, u6 x12, .rows (x13.map (cInt .u64)), .rows (x14.map TCell.cells), .rows (x15.map TWeight.cells)]], 0, none⟩]) rfl ?_ ?_
        · refine .m rfl <| .o (mvR rfl) <| .o (lnR (l := a1) sl31 rfl) <| .o (ltI rfl rfl) <| .m rfl <| ?_
          by_cases c25 : x17 < (a1.length : Int)
          · exact (.g rfl (dt c25) (mvV rfl) <| .g rfl (dt c25) (ltI rfl rfl) <| .o (pkTV rfl (dt c25) rfl) <| .nilL _ ⟨.free rfl rfl, .ptr rfl, .free rfl rfl, .ptr rfl, .free rfl rfl, .free rfl rfl, cB rfl (mAndT (dt c25) rfl), trivial⟩)
          · exact (.n rfl (df c25) <| .n rfl (df c25) <| .o (pkFV rfl (df c25) rfl) <| .nilL _ ⟨.free rfl rfl, .ptr rfl, .free rfl rfl, .ptr rfl, .free rfl rfl, .free rfl rfl, cB rfl (mAndF (df c25)), trivial⟩)
        by_cases c26 : ((decide (x17 < (a1.length : Int))) && (decide (x17 < 200))) = true
        · rw [if_pos c26] at h
          refine .condT rfl c26 <| .skip <| .seq ?_
          refine .consJ (fun s_ => l05_WeightStops.j1 x17 s_ z1) (fun (x29, x30, x31, x32, x33, x34, x35) => listEnv [(1, .rows (a1.map TWeight.cells)), (2, .ptr 0 1 3 0 0), (5, i6 t3_1.1), (7, .ptr 1 1 6 0 0), (9, i6 x35), (10, i6 x17)]) (fun (x29, x30, x31, x32, x33, x34, x35) => [⟨3, [(TSpace.lit a0)], 0, none⟩, ⟨6, [[bo x29, i6 x30, u6 x31, .rows (x32.map (cInt .u64)), .rows (x33.map TCell.cells), .rows (x34.map TWeight.cells)]], 0, none⟩]) ?_ fun hJ1 => ?_
          · rintro ⟨x29, x30, x31, x32, x33, x34, x35⟩ h
            unfold l05_WeightStops.j1 at h
            try dsimp only at h
            refine .reg0 rfl (.m rfl <| .o (addI rfl rfl) <| .a rfl <| .nil0) <| .keepL [0, 1] [(1, .rows (a1.map TWeight.cells)), (2, .ptr 0 1 3 0 0), (5, i6 t3_1.1), (7, .ptr 1 1 6 0 0), (9, i6 x35), (10, i6 (IntKind.i64.wrap (x17 + 1)))] [⟨3, [(TSpace.lit a0)], 0, none⟩, ⟨6, [[bo x29, i6 x30, u6 x31, .rows (x32.map (cInt .u64)), .rows (x33.map TCell.cells), .rows (x34.map TWeight.cells)]], 0, none⟩] (by decide) (by decide) ⟨.free rfl rfl, .ptr rfl, .free rfl rfl, .ptr rfl, .free rfl rfl, .free rfl rfl, trivial⟩ ⟨⟨_, rfl, bcBox (all2_free rfl)⟩, ⟨_, rfl, bcBox (all2_free rfl)⟩, trivial⟩ ?_
            exact hn1 _ h
          · refine .block <| .seq <| .seq ?_
            obtain ⟨g45_2, h⟩ := h
            obtain ⟨t45_4, g45_4, h⟩ := h
            obtain ⟨g45_10, h⟩ := h
            obtain ⟨t45_12, g45_12, h⟩ := h
            refine .reg1 (e1 := listEnv [(1, .rows (a1.map TWeight.cells)), (2, .ptr 0 1 3 0 0), (5, i6 t3_1.1), (7, .ptr 1 1 6 0 0), (9, i6 x16), (10, i6 x17), (62, bo ((!t45_4) || (t45_12 != 0)))]) (H1 := [⟨3, [(TSpace.lit a0)], 0, none⟩, ⟨6, [[bo x10, i6 x11, u6 x12, .rows (x13.map (cInt .u64)), .rows (x14.map TCell.cells), .rows (x15.map TWeight.cells)]], 0, none⟩]) rfl ?_ ?_
            · by_cases c31 : t45_4 = true
              · exact .drawM [(14, 62, bo (t45_12 != 0)), (13, 61, bo (t45_12 != 0)), (12, 60, i6 t45_12), (11, 59, .agg (TWeight.lit (rdl a1 x17))), (10, 58, .cptr (TWeight.lit (rdl a1 x17)) 0), (9, 57, i6 x17), (8, 56, .rows (a1.map TWeight.cells)), (7, 55, .agg (TSpace.lit a0)), (6, 54, bo (!t45_4)), (5, 53, bo (!t45_4)), (4, 52, bo t45_4), (3, 51, .agg (TWeight.lit (rdl a1 x17))), (2, 50, .cptr (TWeight.lit (rdl a1 x17)) 0), (1, 49, i6 x17), (0, 48, .rows (a1.map TWeight.cells))] [] GJ_A1 (by rfl) (by rfl) (by rfl) (by exact ⟨oP (fun _ => mvR rfl) rfl, oP (fun _ => mvV rfl) rfl, oP (fun _ => ixR (l := a1) (lit := TWeight.lit) sl31 rfl rfl TWeight.cells_lit g45_2.1 g45_2.2) rfl, oP (fun _ => ldCG rfl sz33 ag33 rfl) rfl, fun S hS hD hn => .oneI hS hD hn rfl rfl (callee_of rfl go10 rfl) (.pure rfl rfl (l05_small.D g45_4)) rfl rfl rfl, oP (fun _ => notB rfl) rfl, oP (fun _ => mvV rfl) rfl, oG rfl (fun _ => rfl) (bnotF c31) (fun _ => ldG rfl sz25 ag25 rfl) rfl, oG rfl (fun _ => rfl) (bnotF c31) (fun _ => mvR rfl) rfl, oG rfl (fun _ => rfl) (bnotF c31) (fun _ => mvV rfl) rfl, oG rfl (fun _ => rfl) (bnotF c31) (fun _ => ixR (l := a1) (lit := TWeight.lit) sl31 rfl rfl TWeight.cells_lit (g45_10 c31).1 (g45_10 c31).2) rfl, oG rfl (fun _ => rfl) (bnotF c31) (fun _ => ldCG rfl sz33 ag33 rfl) rfl, fun S hS hD hn => .oneI hS hD hn (gT rfl rfl rfl (bnotF c31)) rfl (callee_of rfl go11 rfl) (.pure rfl rfl (r05_Check.D (g45_12 c31))) rfl rfl rfl, oG rfl (fun _ => rfl) (bnotF c31) (fun _ => neI rfl rfl) rfl, oP (fun _ => pkFV rfl (bnotF c31) rfl) rfl, trivial⟩) _ (by exact ⟨.free rfl rfl, .ptr rfl, .free rfl rfl, .ptr rfl, .free rfl rfl, .free rfl rfl, cB rfl (mOrF (bnotF c31) rfl), trivial⟩) (by rfl)
              · exact .drawM [(14, 62, bo true), (13, 61, und), (12, 60, und), (11, 59, und), (10, 58, und), (9, 57, und), (8, 56, und), (7, 55, und), (6, 54, bo (!t45_4)), (5, 53, bo (!t45_4)), (4, 52, bo t45_4), (3, 51, .agg (TWeight.lit (rdl a1 x17))), (2, 50, .cptr (TWeight.lit (rdl a1 x17)) 0), (1, 49, i6 x17), (0, 48, .rows (a1.map TWeight.cells))] [] GJ_A1 (by rfl) (by rfl) (by rfl) (by exact ⟨oP (fun _ => mvR rfl) rfl, oP (fun _ => mvV rfl) rfl, oP (fun _ => ixR (l := a1) (lit := TWeight.lit) sl31 rfl rfl TWeight.cells_lit g45_2.1 g45_2.2) rfl, oP (fun _ => ldCG rfl sz33 ag33 rfl) rfl, fun S hS hD hn => .oneI hS hD hn rfl rfl (callee_of rfl go10 rfl) (.pure rfl rfl (l05_small.D g45_4)) rfl rfl rfl, oP (fun _ => notB rfl) rfl, oP (fun _ => mvV rfl) rfl, oN rfl (fun _ => rfl) (bnotT (nb c31)) rfl, oN rfl (fun _ => rfl) (bnotT (nb c31)) rfl, oN rfl (fun _ => rfl) (bnotT (nb c31)) rfl, oN rfl (fun _ => rfl) (bnotT (nb c31)) rfl, oN rfl (fun _ => rfl) (bnotT (nb c31)) rfl, oN rfl (fun _ => rfl) (bnotT (nb c31)) rfl, oN rfl (fun _ => rfl) (bnotT (nb c31)) rfl, oP (fun _ => pkTV rfl (bnotT (nb c31)) rfl) rfl, trivial⟩) _ (by exact ⟨.free rfl rfl, .ptr rfl, .free rfl rfl, .ptr rfl, .free rfl rfl, .free rfl rfl, cB rfl (mOrT (bnotT (nb c31))), trivial⟩) (by rfl)
            by_cases c32 : ((!t45_4) || (t45_12 != 0)) = true
            · rw [if_pos c32] at h
              refine .condT rfl c32 <| .exit rfl <| .keepL [0, 1] [(1, .rows (a1.map TWeight.cells)), (2, .ptr 0 1 3 0 0), (5, i6 t3_1.1), (7, .ptr 1 1 6 0 0), (9, i6 x16), (10, i6 x17)] [⟨3, [(TSpace.lit a0)], 0, none⟩, ⟨6, [[bo x10, i6 x11, u6 x12, .rows (x13.map (cInt .u64)), .rows (x14.map TCell.cells), .rows (x15.map TWeight.cells)]], 0, none⟩] (by decide) (by decide) ⟨.free rfl rfl, .ptr rfl, .free rfl rfl, .ptr rfl, .free rfl rfl, .free rfl rfl, trivial⟩ ⟨⟨_, rfl, bcBox (all2_free rfl)⟩, ⟨_, rfl, bcBox (all2_free rfl)⟩, trivial⟩ ?_
              exact hJ1 _ h
            · rw [if_neg c32] at h
              refine .condF rfl (nb c32) <| .skip <| .seq ?_
              obtain ⟨g46_4, h⟩ := h
              obtain ⟨t46_7, g46_7, h⟩ := h
              refine .room 0 <| .room 0 ?_
              refine .reg1 (e1 := listEnv [(1, .rows (a1.map TWeight.cells)), (2, .ptr 0 1 3 0 0), (5, i6 t3_1.1), (7, .ptr 1 1 6 0 0), (9, i6 x16), (10, i6 x17), (11, .ptr 3 1 6 0 0)]) (H1 := [⟨3, [(TSpace.lit a0)], 0, none⟩, ⟨6, [[bo x10, i6 x11, u6 x12, .rows (x13.map (cInt .u64)), .rows (x14.map TCell.cells), .rows (x15.map TWeight.cells)]], 0, none⟩, ⟨6, [(TWeight.mk x10 x11 (TFacts.mk x12 x13) x14 x15), (rdl a1 x17)].map TWeight.cells, (max 0 ([(TWeight.mk x10 x11 (TFacts.mk x12 x13) x14 x15), (rdl a1 x17)].map TWeight.cells : List (List PV)).length), none⟩, ⟨6, [(TWeight.lit t46_7)], 0, none⟩]) rfl ?_ ?_
              · exact .drawM [(8, 11, .ptr 3 1 6 0 0), (7, 70, .agg (TWeight.lit t46_7)), (6, 69, .own 2 ([(TWeight.mk x10 x11 (TFacts.mk x12 x13) x14 x15), (rdl a1 x17)].length)), (5, 68, .agg (TWeight.lit (rdl a1 x17))), (4, 67, .cptr (TWeight.lit (rdl a1 x17)) 0), (3, 66, i6 x17), (2, 65, .rows (a1.map TWeight.cells)), (1, 64, .agg [bo x10, i6 x11, u6 x12, .rows (x13.map (cInt .u64)), .rows (x14.map TCell.cells), .rows (x15.map TWeight.cells)]), (0, 63, .agg (TSpace.lit a0))] [(9, 3, ⟨6, [(TWeight.lit t46_7)], 0, none⟩), (8, 3, ⟨6, [GJ_c0], 0, none⟩), (7, 2, ⟨6, [(TWeight.mk x10 x11 (TFacts.mk x12 x13) x14 x15), (rdl a1 x17)].map TWeight.cells, (max 0 ([(TWeight.mk x10 x11 (TFacts.mk x12 x13) x14 x15), (rdl a1 x17)].map TWeight.cells : List (List PV)).length), none⟩), (6, 2, ⟨6, [(TWeight.mk x10 x11 (TFacts.mk x12 x13) x14 x15), (rdl a1 x17)].map TWeight.cells, 0, none⟩)] [[], [], [], [], [2, 3], [4, 2, 3], [1, 5, 4, 2, 3], [0, 6, 1, 5, 4, 2, 3], [], [8, 7, 0, 6, 1, 5, 4, 2, 3]] (by rfl) (by rfl) (by rfl) (by exact ⟨oP (fun _ => ldG rfl sz25 ag25 rfl) rfl, oP (fun _ => ldG rfl sz33 ag33 rfl) rfl, oP (fun _ => mvR rfl) rfl, oP (fun _ => mvV rfl) rfl, oP (fun _ => ixR (l := a1) (lit := TWeight.lit) sl31 rfl rfl TWeight.cells_lit g46_4.1 g46_4.2) rfl, oP (fun _ => ldCG rfl sz33 ag33 rfl) rfl, oW 2 (fun _ => bldT (s := 6) (cs := [bo x10, i6 x11, u6 x12, .rows (x13.map (cInt .u64)), .rows (x14.map TCell.cells), .rows (x15.map TWeight.cells), bo ((rdl a1 x17).Zero), i6 ((rdl a1 x17).Cost), u6 ((rdl a1 x17).Facts.Gen), .rows ((rdl a1 x17).Facts.Rows.map (cInt .u64)), .rows ((rdl a1 x17).Cells.map TCell.cells), .rows ((rdl a1 x17).Parts.map TWeight.cells)]) (cf := TWeight.cells) [(TWeight.mk x10 x11 (TFacts.mk x12 x13) x14 x15), (rdl a1 x17)] un31 sz33 ze33 ⟨by decide, rfl, by decide⟩ rfl rfl rfl (by simp only [List.map, TWeight.cells_lit]; rfl) rfl) rfl fun _ => rfl, fun S hS hD hn => .oneI hS hD hn rfl rfl (callee_of rfl go16 rfl) (.lendC (args' := [.agg (TSpace.lit a0), .rows ([(TWeight.mk x10 x11 (TFacts.mk x12 x13) x14 x15), (rdl a1 x17)].map TWeight.cells)])  [2] true (.cons (.free rfl rfl) <| .cons (cFixO (l := [(TWeight.mk x10 x11 (TFacts.mk x12 x13) x14 x15), (rdl a1 x17)]) sl31 rfl rfl rfl rfl) <| .nil) (by decide) rfl rfl rfl rfl (l05_combine.D g46_7)) rfl rfl rfl, oW 3 (fun _ => alP (s := 6) ze33 ⟨rfl, by decide, rfl⟩ rfl) rfl fun _ => rfl, fun S hS hD hn => .one0 0 rfl rfl (stB (cs0 := GJ_c0) (cs := (TWeight.lit t46_7)) (cs1 := (TWeight.lit t46_7)) rfl rfl sz33 rfl ⟨Nat.le_of_ble_eq_true rfl, rfl⟩ rfl) (drawE_other _ _ _ _ rfl) rfl, trivial⟩) _ (by exact ⟨.free rfl rfl, .ptr rfl, .free rfl rfl, .ptr rfl, .free rfl rfl, .free rfl rfl, .ptr rfl, trivial⟩) (by rfl)
              refine .seq <| .seq ?_
              obtain ⟨t47_2, g47_2, h⟩ := h
              refine .reg0 rfl (.o (ldG rfl sz33 ag33 rfl) <| .o (ldG rfl sz33 ag33 rfl) <| .c rfl go15 rfl rfl rfl (r05_Same.D g47_2) <| .o (notB rfl) <| .nil0) ?_
              refine .consJ (fun s_ => l05_WeightStops.j2 x17 t46_7 s_ z1) (fun x36 => listEnv [(1, .rows (a1.map TWeight.cells)), (2, .ptr 0 1 3 0 0), (5, i6 t3_1.1), (7, .ptr 1 1 6 0 0), (9, i6 x36), (10, i6 x17), (11, .ptr 2 1 6 0 0)]) (fun x36 => [⟨3, [(TSpace.lit a0)], 0, none⟩, ⟨6, [[bo x10, i6 x11, u6 x12, .rows (x13.map (cInt .u64)), .rows (x14.map TCell.cells), .rows (x15.map TWeight.cells)]], 0, none⟩, ⟨6, [(TWeight.lit t46_7)], 0, none⟩]) ?_ fun hJ2 => ?_
              · rintro x36 h
                unfold l05_WeightStops.j2 at h
                try dsimp only at h
                refine .reg0 rfl (.o (ldG rfl sz33 ag33 rfl) <| .o (stB (cs0 := [bo x10, i6 x11, u6 x12, .rows (x13.map (cInt .u64)), .rows (x14.map TCell.cells), .rows (x15.map TWeight.cells)]) (cs := (TWeight.lit t46_7)) (cs1 := (TWeight.lit t46_7)) rfl rfl sz33 rfl ⟨Nat.le_of_ble_eq_true rfl, rfl⟩ rfl) <| .nil0) <| .inBlock <| .keepL [0, 1] [(1, .rows (a1.map TWeight.cells)), (2, .ptr 0 1 3 0 0), (5, i6 t3_1.1), (7, .ptr 1 1 6 0 0), (9, i6 x36), (10, i6 x17)] [⟨3, [(TSpace.lit a0)], 0, none⟩, ⟨6, [(TWeight.lit t46_7)], 0, none⟩] (by decide) (by decide) ⟨.free rfl rfl, .ptr rfl, .free rfl rfl, .ptr rfl, .free rfl rfl, .free rfl rfl, trivial⟩ ⟨⟨_, rfl, bcBox (all2_free rfl)⟩, ⟨_, rfl, bcBox (all2_free rfl)⟩, trivial⟩ ?_
                exact hJ1 _ h
              · by_cases c34 : t47_2 = true
                · rw [if_pos c34] at h
                  refine .condF rfl (bnotF c34) <| .skip <| .keepL [0, 1, 3] [(1, .rows (a1.map TWeight.cells)), (2, .ptr 0 1 3 0 0), (5, i6 t3_1.1), (7, .ptr 1 1 6 0 0), (9, i6 x16), (10, i6 x17), (11, .ptr 2 1 6 0 0)] [⟨3, [(TSpace.lit a0)], 0, none⟩, ⟨6, [[bo x10, i6 x11, u6 x12, .rows (x13.map (cInt .u64)), .rows (x14.map TCell.cells), .rows (x15.map TWeight.cells)]], 0, none⟩, ⟨6, [(TWeight.lit t46_7)], 0, none⟩] (by decide) (by decide) ⟨.free rfl rfl, .ptr rfl, .free rfl rfl, .ptr rfl, .free rfl rfl, .free rfl rfl, .ptr rfl, trivial⟩ ⟨⟨_, rfl, bcBox (all2_free rfl)⟩, ⟨_, rfl, bcBox (all2_free rfl)⟩, ⟨_, rfl, bcBox (all2_free rfl)⟩, trivial⟩ ?_
                  exact hJ2 _ h
                · rw [if_neg c34] at h
                  refine .condT rfl (bnotT (nb c34)) <| .reg0 rfl (.m rfl <| .o (addI rfl rfl) <| .a rfl <| .nil0) <| .keepL [0, 1, 3] [(1, .rows (a1.map TWeight.cells)), (2, .ptr 0 1 3 0 0), (5, i6 t3_1.1), (7, .ptr 1 1 6 0 0), (9, i6 (IntKind.i64.wrap (x16 + 1))), (10, i6 x17), (11, .ptr 2 1 6 0 0)] [⟨3, [(TSpace.lit a0)], 0, none⟩, ⟨6, [[bo x10, i6 x11, u6 x12, .rows (x13.map (cInt .u64)), .rows (x14.map TCell.cells), .rows (x15.map TWeight.cells)]], 0, none⟩, ⟨6, [(TWeight.lit t46_7)], 0, none⟩] (by decide) (by decide) ⟨.free rfl rfl, .ptr rfl, .free rfl rfl, .ptr rfl, .free rfl rfl, .free rfl rfl, .ptr rfl, trivial⟩ ⟨⟨_, rfl, bcBox (all2_free rfl)⟩, ⟨_, rfl, bcBox (all2_free rfl)⟩, ⟨_, rfl, bcBox (all2_free rfl)⟩, trivial⟩ ?_
                  exact hJ2 _ h
        · rw [if_neg c26] at h
          refine .condF rfl (nb c26) <| .exit rfl <| .keepL [] [(5, i6 t3_1.1), (9, i6 x16)] [] (by decide) (by decide) ⟨.free rfl rfl, .free rfl rfl, trivial⟩ trivial ?_
          exact hx1 _ h
  · rw [if_neg c1] at h
    refine .condT rfl (bnotT (nb c1)) <| .seq ?_
    obtain ⟨t52_0, g52_0, h⟩ := h
    refine .reg0 rfl (.c rfl go12 rfl rfl rfl (l05_alive.D g52_0) <| .a rfl <| .nil0) ?_
    replace h := h.symm
    subst h
    refine .kf [(4, bo t52_0)] rfl rfl ?_
    exact .ret rfl
end Go.RM.Tryz
