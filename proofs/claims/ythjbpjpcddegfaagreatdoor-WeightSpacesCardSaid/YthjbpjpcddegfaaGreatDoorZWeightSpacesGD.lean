/- GD, for the statement WeightSpaces: what it needs, no more. -/
import Derived.Test.YthjbpjpcddegfaaGreatDoorZWeightSpacesGC
set_option linter.unusedVariables false
set_option maxRecDepth 8000
set_option maxHeartbeats 4000000
namespace Go.RM.Tryz
open Go.RM Go.Proofs
def cells_Check.b1 (a0 : Int) (a1 : List TCell) : Int → Rnd Int Unit Int → Prop := fun x1 z1 => if x1 < (a1.length : Int) then (((InR x1 a1.length)) ∧ ∃ t18_2 : Bool, (cells_right.f a0 (rdl a1 x1) t18_2) ∧ if t18_2 = true then (z1 = .next (IntKind.i64.wrap (x1 + 1))) else (z1 = .ret 40)) else (z1 = .exit ())
def cells_Check.f (a0 : Int) (a1 : List TCell) (r : Int) : Prop :=
  ∃ t2_1 : Int, (cells_dims.f a0 t2_1) ∧ if t2_1 = 0 then (if (a1.length : Int) = a0 then (∃ o1 : Fin Unit Int, Loop (cells_Check.b1 a0 a1) 0 o1 ∧ o1.on (fun _ => r = 0) (fun r_ => r = r_)) else (r = 40)) else (r = t2_1)
abbrev GD_c0 : List PV := [u6 0, i6 0, i6 0]
abbrev GD_c1 : List PV := [bo false, i6 0, u6 0, nul, nul, nul]
abbrev GD_c2 : List PV := [bo true, i6 0, u6 0, nul, nul, nul]
theorem cells_Check.D {a0 a1 r} (h : cells_Check.f a0 a1 r) : D Tryz.prog X (.callH 121 [.val (.int .i64 a0), .rows (a1.map TCell.cells)] [] (.val (.int .i64 r)) []) := by
  unfold cells_Check.f at h
  refine .enter 28 0 fn121 rfl rfl rfl <| .seq <| .reg0 rfl (.op 0 rfl (asV rfl) <| .nil0) <| .seq <| .seq ?_
  obtain ⟨t2_1, g2_1, h⟩ := h
  refine .reg0 rfl (.m rfl <| .c rfl go89 rfl rfl rfl (cells_dims.D g2_1) <| .a rfl <| .nil0) <| .seq <| .reg0 rfl (.op 0 rfl (mvV rfl) <| .op 0 rfl (neI rfl rfl) <| .nil0) ?_
  by_cases c1 : t2_1 = 0
  · rw [if_pos c1] at h
    refine .condF rfl (nf c1) <| .skip <| .seq <| .seq <| .reg0 rfl (.op 0 rfl (mvR rfl) <| .op 0 rfl (lnR (l := a1) sl30 rfl) <| .op 0 rfl (mvV rfl) <| .op 0 rfl (neI rfl rfl) <| .nil0) ?_
    by_cases c2 : (a1.length : Int) = a0
    · rw [if_pos c2] at h
      refine .condF rfl (nf c2) <| .skip <| .seq <| .seq <| .reg0 rfl (.op 0 rfl (mvR rfl) <| .op 0 rfl (lnR (l := a1) sl30 rfl) <| .op 0 rfl (mvV rfl) <| .nil0) <| .block <| .keepL [] [(0, i6 a0), (17, .rows (a1.map TCell.cells)), (18, i6 (a1.length : Int)), (19, i6 0)] [] (by decide) (by decide) ⟨.free rfl rfl, .free rfl rfl, .free rfl rfl, .free rfl rfl, trivial⟩ trivial ?_
      obtain ⟨o1, hL1, h⟩ := h
      refine .loopB (cells_Check.b1 a0 a1) (fun x1 => listEnv [(0, i6 a0), (17, .rows (a1.map TCell.cells)), (18, i6 (a1.length : Int)), (19, i6 x1)]) (fun x1 => []) (fun _ => listEnv []) (fun _ => []) hL1 (fun r_ => r = r_) ?_ ?_ ?_
      · rintro ⟨⟩ rfl
        try dsimp only [Fin.on] at h
        refine .seq <| .reg0 rfl (.op 0 rfl (asV rfl) <| .nil0) ?_
        replace h := h.symm
        subst h
        refine .kf [(4, i6 0)] rfl rfl ?_
        exact .ret rfl
      · rintro r_ rfl
        exact h
      · rintro x1 z1 h hn1 hx1 hr1
        dsimp only [cells_Check.b1] at h
        refine .seq <| .reg0 rfl (.op 0 rfl (ltI rfl rfl) <| .nil0) <| .seq ?_
        by_cases c7 : x1 < (a1.length : Int)
        · rw [if_pos c7] at h
          refine .condT rfl (dt c7) <| .skip <| .seq <| .block <| .seq ?_
          obtain ⟨g17_0, h⟩ := h
          refine .room 0 <| .reg0 rfl (.op 0 rfl (ixR (l := a1) (lit := TCell.lit) sl30 rfl rfl (fun _ => rfl) g17_0.1 g17_0.2) <| .op 0 rfl (ldCG rfl sz74 ag74 rfl) <| .op 0 rfl (alP (s := 3) ze74 ⟨rfl, by decide, rfl⟩ rfl) <| .op 0 rfl (stB (cs0 := GD_c0) (cs := (TCell.lit (rdl a1 x1))) (cs1 := (TCell.lit (rdl a1 x1))) rfl rfl sz74 rfl ⟨Nat.le_of_ble_eq_true rfl, rfl⟩ rfl) <| .nil0) <| .seq ?_
          obtain ⟨t18_2, g18_2, h⟩ := h
          refine .reg0 rfl (.m rfl <| .o (ldG rfl sz74 ag74 rfl) <| .c rfl go151 rfl rfl rfl (cells_right.D g18_2) <| .o (notB rfl) <| .nil0) ?_
          by_cases c8 : t18_2 = true
          · rw [if_pos c8] at h
            refine .condF rfl (bnotF c8) <| .skip <| .inBlock <| .reg0 rfl (.op 0 rfl (addI rfl rfl) <| .op 0 rfl (mvV rfl) <| .nil0) <| .kf [(0, i6 a0), (17, .rows (a1.map TCell.cells)), (18, i6 (a1.length : Int)), (19, i6 (IntKind.i64.wrap (x1 + 1)))] rfl rfl ?_
            exact hn1 _ h
          · rw [if_neg c8] at h
            refine .condT rfl (bnotT (nb c8)) <| .seq <| .reg0 rfl (.op 0 rfl (asV rfl) <| .nil0) ?_
            have q3 := hr1 _ h
            replace q3 := q3.symm
            subst q3
            refine .kf [(4, i6 40)] rfl rfl ?_
            exact .ret rfl
        · rw [if_neg c7] at h
          refine .condF rfl (df c7) <| .exit rfl <| .keepL [] [] [] (by decide) (by decide) trivial trivial ?_
          exact hx1 _ h
    · rw [if_neg c2] at h
      refine .condT rfl (nt c2) <| .seq <| .reg0 rfl (.op 0 rfl (asV rfl) <| .nil0) ?_
      replace h := h.symm
      subst h
      refine .kf [(4, i6 40)] rfl rfl ?_
      exact .ret rfl
  · rw [if_neg c1] at h
    refine .condT rfl (nt c1) <| .seq <| .reg0 rfl (.op 0 rfl (mvV rfl) <| .op 0 rfl (asV rfl) <| .nil0) ?_
    replace h := h.symm
    subst h
    refine .kf [(4, i6 t2_1)] rfl rfl ?_
    exact .ret rfl
def weight_is.step (self72 : TSpace → TWeight → Bool → Prop) (a0 : TSpace) (a1 : TWeight) (r : Bool) : Prop :=
  if a1.Zero = true then (∃ t3_5 : Bool, (¬ (a0.Tag = 5) → weight_bare.f a1 0 t3_5) ∧ r = ((!(a0.Tag == 5)) && t3_5)) else (∃ t4_3 : Bool, (weight_bare.f a1 a0.Tag t4_3) ∧ if t4_3 = true then (if a0.Tag = 2 then (∃ t7_8 : Int, (¬ (a1.Cost = (-1)) → cost_Check.f a0.Dim a1.Cost t7_8) ∧ r = ((!(a1.Cost == (-1))) && (t7_8 == 0))) else (if a0.Tag = 3 then (∃ t9_4 : Int, (facts_Check.f a0.Dim a1.Facts t9_4) ∧ r = (t9_4 == 0)) else (if a0.Tag = 4 then (∃ t11_4 : Int, (cells_Check.f a0.Dim a1.Cells t11_4) ∧ r = (t11_4 == 0)) else (if a0.Tag = 5 then ((((a1.Parts.length : Int) = 2) → (InR 0 a0.Parts.length)) ∧ (((a1.Parts.length : Int) = 2) → (InR 0 a1.Parts.length)) ∧ ∃ t13_13 : Bool, (((a1.Parts.length : Int) = 2) → self72 (rdl a0.Parts 0) (rdl a1.Parts 0) t13_13) ∧ (((a1.Parts.length : Int) = 2) → (t13_13 = true) → (InR 1 a0.Parts.length)) ∧ (((a1.Parts.length : Int) = 2) → (t13_13 = true) → (InR 1 a1.Parts.length)) ∧ ∃ t13_24 : Bool, (((a1.Parts.length : Int) = 2) → (t13_13 = true) → self72 (rdl a0.Parts 1) (rdl a1.Parts 1) t13_24) ∧ r = (((a1.Parts.length : Int) == 2) && (t13_13 && t13_24))) else (r = true))))) else (r = false))
abbrev GD_A0 : List (List Nat) := [[], [0], [1, 0], [2, 1, 0], [3, 2, 1, 0], [4, 3, 2, 1, 0], [5, 4, 3, 2, 1, 0], [6, 5, 4, 3, 2, 1, 0], [7, 6, 5, 4, 3, 2, 1, 0], [4, 3, 2, 1, 0], [9, 4, 3, 2, 1, 0], [10, 9, 4, 3, 2, 1, 0], [11, 10, 9, 4, 3, 2, 1, 0], [8, 7, 6, 5, 4, 3, 2, 1, 0, 12, 11, 10, 9], [4, 3, 2, 1, 0, 13, 8, 7, 6, 5, 12, 11, 10, 9], [14, 4, 3, 2, 1, 0, 13, 8, 7, 6, 5, 12, 11, 10, 9], [15, 14, 4, 3, 2, 1, 0, 13, 8, 7, 6, 5, 12, 11, 10, 9], [16, 15, 14, 4, 3, 2, 1, 0, 13, 8, 7, 6, 5, 12, 11, 10, 9], [17, 16, 15, 14, 4, 3, 2, 1, 0, 13, 8, 7, 6, 5, 12, 11, 10, 9], [18, 17, 16, 15, 14, 4, 3, 2, 1, 0, 13, 8, 7, 6, 5, 12, 11, 10, 9], [15, 14, 4, 3, 2, 1, 0, 13, 8, 7, 6, 5, 12, 11, 10, 9], [20, 15, 14, 4, 3, 2, 1, 0, 13, 8, 7, 6, 5, 12, 11, 10, 9], [21, 20, 15, 14, 4, 3, 2, 1, 0, 13, 8, 7, 6, 5, 12, 11, 10, 9], [22, 21, 20, 15, 14, 4, 3, 2, 1, 0, 13, 8, 7, 6, 5, 12, 11, 10, 9], [19, 18, 17, 16, 15, 14, 4, 3, 2, 1, 0, 13, 8, 7, 6, 5, 12, 11, 10, 9, 23, 22, 21, 20], [15, 14, 4, 3, 2, 1, 0, 13, 8, 7, 6, 5, 12, 11, 10, 9, 24, 19, 18, 17, 16, 23, 22, 21, 20], [25, 15, 14, 4, 3, 2, 1, 0, 13, 8, 7, 6, 5, 12, 11, 10, 9, 24, 19, 18, 17, 16, 23, 22, 21, 20]]
theorem weight_is.stepD {self72 : TSpace → TWeight → Bool → Prop} {a0 : TSpace} {a1 : TWeight} (hs72 : ∀ z0_ z1_ r_, self72 z0_ z1_ r_ → D Tryz.prog X (.callH 72 [.agg (TSpace.lit z0_), .agg (TWeight.lit z1_)] [] (.val (.bool r_)) [])) {r : Bool} (h : weight_is.step self72 a0 a1 r) : D Tryz.prog X (.callH 72 [.agg (TSpace.lit a0), .agg (TWeight.lit a1)] [] (.val (.bool r)) []) := by
  unfold weight_is.step at h
  refine .enter 78 0 fn72 rfl rfl rfl <| .seq <| .room 0 <| .room 0 <| .reg0 rfl (.op 0 rfl (bxP (s := 3) (cs := (TSpace.lit a0)) rfl ⟨rfl, by decide, rfl⟩ rfl) <| .op 1 rfl (bxP (s := 6) (cs := (TWeight.lit a1)) rfl ⟨rfl, by decide, rfl⟩ rfl) <| .op 0 rfl (asV rfl) <| .nil0) <| .seq <| .seq <| .reg0 rfl (.op 0 rfl (faP fa33_0 rfl) <| .op 0 rfl (ldP rfl sz4 ag4 rfl) <| .nil0) ?_
  by_cases c1 : a1.Zero = true
  · rw [if_pos c1] at h
    refine .condT rfl c1 <| .seq ?_
    obtain ⟨t3_5, g3_5, h⟩ := h
    refine .reg0 (e1 := listEnv [(4, bo ((!(a0.Tag == 5)) && t3_5))]) (H1 := [⟨3, [(TSpace.lit a0)], 0, none⟩, ⟨6, [(TWeight.lit a1)], 0, none⟩]) rfl ?_ ?_
    · refine .o (faP fa25_0 rfl) <| .o (ldP rfl sz22 ag22 rfl) <| .o (neI rfl rfl) <| .m rfl <| ?_
      by_cases c2 : a0.Tag = 5
      · exact (.n rfl (nf c2) <| .n rfl (nf c2) <| .o (pkFV rfl (nf c2) rfl) <| .a rfl <| .nilL _ ⟨cB rfl (mAndF (bnotF (bt c2))), trivial⟩)
      · exact (.g rfl (nt c2) (ldG rfl sz33 ag33 rfl) <| .callI (gT rfl rfl rfl (nt c2)) (callee_of rfl go118 rfl) (.pure rfl rfl (weight_bare.D (g3_5 c2))) <| .o (pkTV rfl (nt c2) rfl) <| .a rfl <| .nilL _ ⟨cB rfl (mAndT (bnotT (bn c2)) rfl), trivial⟩)
    replace h := h.symm
    subst h
    refine .kf [(4, bo ((!(a0.Tag == 5)) && t3_5))] rfl rfl ?_
    exact .ret rfl
  · rw [if_neg c1] at h
    refine .condF rfl (nb c1) <| .skip <| .seq <| .seq ?_
    obtain ⟨t4_3, g4_3, h⟩ := h
    refine .reg0 rfl (.o (ldG rfl sz33 ag33 rfl) <| .o (faP fa25_0 rfl) <| .o (ldP rfl sz22 ag22 rfl) <| .c rfl go118 rfl rfl rfl (weight_bare.D g4_3) <| .o (notB rfl) <| .nil0) ?_
    by_cases c3 : t4_3 = true
    · rw [if_pos c3] at h
      refine .condF rfl (bnotF c3) <| .skip <| .seq <| .seq <| .reg0 rfl (.op 0 rfl (faP fa25_0 rfl) <| .op 0 rfl (ldP rfl sz22 ag22 rfl) <| .nil0) <| .block <| .seq <| .reg0 rfl (.op 0 rfl (eqI rfl rfl) <| .op 0 rfl (asV rfl) <| .nil0) ?_
      by_cases c4 : a0.Tag = 2
      · rw [if_pos c4] at h
        refine .condT rfl (bt c4) <| .seq ?_
        obtain ⟨t7_8, g7_8, h⟩ := h
        refine .reg0 (e1 := listEnv [(4, bo ((!(a1.Cost == (-1))) && (t7_8 == 0)))]) (H1 := [⟨3, [(TSpace.lit a0)], 0, none⟩, ⟨6, [(TWeight.lit a1)], 0, none⟩]) rfl ?_ ?_
        · refine .o (faP fa33_1 rfl) <| .o (ldP rfl sz3 ag3 rfl) <| .o (neI rfl rfl) <| .m rfl <| ?_
          by_cases c5 : a1.Cost = (-1)
          · exact (.n rfl (nf c5) <| .n rfl (nf c5) <| .n rfl (nf c5) <| .n rfl (nf c5) <| .n rfl (nf c5) <| .n rfl (nf c5) <| .o (pkFV rfl (nf c5) rfl) <| .a rfl <| .nilL _ ⟨cB rfl (mAndF (bnotF (bt c5))), trivial⟩)
          · exact (.g rfl (nt c5) (faP fa25_1 rfl) <| .g rfl (nt c5) (ldP rfl sz3 ag3 rfl) <| .g rfl (nt c5) (faP fa33_1 rfl) <| .g rfl (nt c5) (ldP rfl sz3 ag3 rfl) <| .callI (gT rfl rfl rfl (nt c5)) (callee_of rfl go119 rfl) (.pure rfl rfl (cost_Check.D (g7_8 c5))) <| .g rfl (nt c5) (eqI rfl rfl) <| .o (pkTV rfl (nt c5) rfl) <| .a rfl <| .nilL _ ⟨cB rfl (mAndT (bnotT (bn c5)) rfl), trivial⟩)
        replace h := h.symm
        subst h
        refine .kf [(4, bo ((!(a1.Cost == (-1))) && (t7_8 == 0)))] rfl rfl ?_
        exact .ret rfl
      · rw [if_neg c4] at h
        refine .condF rfl (bn c4) <| .seq <| .reg0 rfl (.op 0 rfl (eqI rfl rfl) <| .op 0 rfl (asV rfl) <| .nil0) ?_
        by_cases c6 : a0.Tag = 3
        · rw [if_pos c6] at h
          refine .condT rfl (bt c6) <| .seq ?_
          obtain ⟨t9_4, g9_4, h⟩ := h
          refine .reg0 rfl (.o (faP fa25_1 rfl) <| .o (ldP rfl sz3 ag3 rfl) <| .o (faP fa33_2 rfl) <| .o (ldG rfl sz29 ag29 rfl) <| .c rfl go120 rfl rfl rfl (facts_Check.D g9_4) <| .o (eqI rfl rfl) <| .a rfl <| .nil0) ?_
          replace h := h.symm
          subst h
          refine .kf [(4, bo (t9_4 == 0))] rfl rfl ?_
          exact .ret rfl
        · rw [if_neg c6] at h
          refine .condF rfl (bn c6) <| .seq <| .reg0 rfl (.op 0 rfl (eqI rfl rfl) <| .op 0 rfl (asV rfl) <| .nil0) ?_
          by_cases c7 : a0.Tag = 4
          · rw [if_pos c7] at h
            refine .condT rfl (bt c7) <| .seq ?_
            obtain ⟨t11_4, g11_4, h⟩ := h
            refine .reg0 rfl (.o (faP fa25_1 rfl) <| .o (ldP rfl sz3 ag3 rfl) <| .o (faP fa33_3 rfl) <| .o (ldP rfl sz30 ag30 rfl) <| .c rfl go121 rfl rfl rfl (cells_Check.D g11_4) <| .o (eqI rfl rfl) <| .a rfl <| .nil0) ?_
            replace h := h.symm
            subst h
            refine .kf [(4, bo (t11_4 == 0))] rfl rfl ?_
            exact .ret rfl
          · rw [if_neg c7] at h
            refine .condF rfl (bn c7) <| .seq <| .reg0 rfl (.op 0 rfl (eqI rfl rfl) <| .op 0 rfl (asV rfl) <| .nil0) ?_
            by_cases c8 : a0.Tag = 5
            · rw [if_pos c8] at h
              refine .condT rfl (bt c8) <| .seq ?_
              obtain ⟨g13_7, h⟩ := h
              obtain ⟨g13_11, h⟩ := h
              obtain ⟨t13_13, g13_13, h⟩ := h
              obtain ⟨g13_18, h⟩ := h
              obtain ⟨g13_22, h⟩ := h
              obtain ⟨t13_24, g13_24, h⟩ := h
              refine .reg1 (e1 := listEnv [(4, bo (((a1.Parts.length : Int) == 2) && (t13_13 && t13_24)))]) (H1 := [⟨3, [(TSpace.lit a0)], 0, none⟩, ⟨6, [(TWeight.lit a1)], 0, none⟩]) rfl ?_ ?_
              · by_cases c9 : (a1.Parts.length : Int) = 2
                · by_cases c10 : t13_13 = true
                  · exact .drawM [(26, 4, bo t13_24), (25, 77, bo t13_24), (24, 76, bo t13_24), (23, 75, .agg (TWeight.lit (rdl a1.Parts 1))), (22, 74, .cptr (TWeight.lit (rdl a1.Parts 1)) 0), (21, 73, .rows (a1.Parts.map TWeight.cells)), (20, 72, .ptr 1 1 6 0 5), (19, 71, .agg (TSpace.lit (rdl a0.Parts 1))), (18, 70, .cptr (TSpace.lit (rdl a0.Parts 1)) 0), (17, 69, .rows (a0.Parts.map TSpace.cells)), (16, 68, .ptr 0 1 3 0 2), (15, 67, bo t13_13), (14, 66, bo t13_13), (13, 65, bo t13_13), (12, 64, .agg (TWeight.lit (rdl a1.Parts 0))), (11, 63, .cptr (TWeight.lit (rdl a1.Parts 0)) 0), (10, 62, .rows (a1.Parts.map TWeight.cells)), (9, 61, .ptr 1 1 6 0 5), (8, 60, .agg (TSpace.lit (rdl a0.Parts 0))), (7, 59, .cptr (TSpace.lit (rdl a0.Parts 0)) 0), (6, 58, .rows (a0.Parts.map TSpace.cells)), (5, 57, .ptr 0 1 3 0 2), (4, 56, bo ((a1.Parts.length : Int) == 2)), (3, 55, bo ((a1.Parts.length : Int) == 2)), (2, 54, i6 (a1.Parts.length : Int)), (1, 53, .rows (a1.Parts.map TWeight.cells)), (0, 52, .ptr 1 1 6 0 5)] [] GD_A0 (by rfl) (by rfl) (by rfl) (by exact ⟨oP (fun _ => faP fa33_4 rfl) rfl, oP (fun _ => ldP rfl sz31 ag31 rfl) rfl, oP (fun _ => lnR (l := a1.Parts) sl31 rfl) rfl, oP (fun _ => eqI rfl rfl) rfl, oP (fun _ => mvV rfl) rfl, oG rfl (fun _ => rfl) (bt c9) (fun _ => faP fa25_2 rfl) rfl, oG rfl (fun _ => rfl) (bt c9) (fun _ => ldP rfl sz23 ag23 rfl) rfl, oG rfl (fun _ => rfl) (bt c9) (fun _ => ixR (l := a0.Parts) (lit := TSpace.lit) sl23 rfl rfl TSpace.cells_lit (g13_7 c9).1 (g13_7 c9).2) rfl, oG rfl (fun _ => rfl) (bt c9) (fun _ => ldCG rfl sz25 ag25 rfl) rfl, oG rfl (fun _ => rfl) (bt c9) (fun _ => faP fa33_4 rfl) rfl, oG rfl (fun _ => rfl) (bt c9) (fun _ => ldP rfl sz31 ag31 rfl) rfl, oG rfl (fun _ => rfl) (bt c9) (fun _ => ixR (l := a1.Parts) (lit := TWeight.lit) sl31 rfl rfl TWeight.cells_lit (g13_11 c9).1 (g13_11 c9).2) rfl, oG rfl (fun _ => rfl) (bt c9) (fun _ => ldCG rfl sz33 ag33 rfl) rfl, fun S hS hD hn => .oneI hS hD hn (gT rfl rfl rfl (bt c9)) rfl (callee_of rfl go72 rfl) (.pure rfl rfl (hs72 _ _ _ (g13_13 c9))) rfl rfl rfl, oP (fun _ => pkTV rfl (bt c9) rfl) rfl, oP (fun _ => mvV rfl) rfl, oG rfl (fun _ => rfl) c10 (fun _ => faP fa25_2 rfl) rfl, oG rfl (fun _ => rfl) c10 (fun _ => ldP rfl sz23 ag23 rfl) rfl, oG rfl (fun _ => rfl) c10 (fun _ => ixR (l := a0.Parts) (lit := TSpace.lit) sl23 rfl rfl TSpace.cells_lit (g13_18 c9 c10).1 (g13_18 c9 c10).2) rfl, oG rfl (fun _ => rfl) c10 (fun _ => ldCG rfl sz25 ag25 rfl) rfl, oG rfl (fun _ => rfl) c10 (fun _ => faP fa33_4 rfl) rfl, oG rfl (fun _ => rfl) c10 (fun _ => ldP rfl sz31 ag31 rfl) rfl, oG rfl (fun _ => rfl) c10 (fun _ => ixR (l := a1.Parts) (lit := TWeight.lit) sl31 rfl rfl TWeight.cells_lit (g13_22 c9 c10).1 (g13_22 c9 c10).2) rfl, oG rfl (fun _ => rfl) c10 (fun _ => ldCG rfl sz33 ag33 rfl) rfl, fun S hS hD hn => .oneI hS hD hn (gT rfl rfl rfl c10) rfl (callee_of rfl go72 rfl) (.pure rfl rfl (hs72 _ _ _ (g13_24 c9 c10))) rfl rfl rfl, oP (fun _ => pkTV rfl c10 rfl) rfl, oP (fun _ => asV rfl) rfl, trivial⟩) _ (by exact ⟨cB rfl (mAndT (bt c9) (mAndT c10 rfl)), trivial⟩) (by rfl)
                  · exact .drawM [(26, 4, bo false), (25, 77, bo false), (24, 76, und), (23, 75, und), (22, 74, und), (21, 73, und), (20, 72, und), (19, 71, und), (18, 70, und), (17, 69, und), (16, 68, und), (15, 67, bo t13_13), (14, 66, bo t13_13), (13, 65, bo t13_13), (12, 64, .agg (TWeight.lit (rdl a1.Parts 0))), (11, 63, .cptr (TWeight.lit (rdl a1.Parts 0)) 0), (10, 62, .rows (a1.Parts.map TWeight.cells)), (9, 61, .ptr 1 1 6 0 5), (8, 60, .agg (TSpace.lit (rdl a0.Parts 0))), (7, 59, .cptr (TSpace.lit (rdl a0.Parts 0)) 0), (6, 58, .rows (a0.Parts.map TSpace.cells)), (5, 57, .ptr 0 1 3 0 2), (4, 56, bo ((a1.Parts.length : Int) == 2)), (3, 55, bo ((a1.Parts.length : Int) == 2)), (2, 54, i6 (a1.Parts.length : Int)), (1, 53, .rows (a1.Parts.map TWeight.cells)), (0, 52, .ptr 1 1 6 0 5)] [] GD_A0 (by rfl) (by rfl) (by rfl) (by exact ⟨oP (fun _ => faP fa33_4 rfl) rfl, oP (fun _ => ldP rfl sz31 ag31 rfl) rfl, oP (fun _ => lnR (l := a1.Parts) sl31 rfl) rfl, oP (fun _ => eqI rfl rfl) rfl, oP (fun _ => mvV rfl) rfl, oG rfl (fun _ => rfl) (bt c9) (fun _ => faP fa25_2 rfl) rfl, oG rfl (fun _ => rfl) (bt c9) (fun _ => ldP rfl sz23 ag23 rfl) rfl, oG rfl (fun _ => rfl) (bt c9) (fun _ => ixR (l := a0.Parts) (lit := TSpace.lit) sl23 rfl rfl TSpace.cells_lit (g13_7 c9).1 (g13_7 c9).2) rfl, oG rfl (fun _ => rfl) (bt c9) (fun _ => ldCG rfl sz25 ag25 rfl) rfl, oG rfl (fun _ => rfl) (bt c9) (fun _ => faP fa33_4 rfl) rfl, oG rfl (fun _ => rfl) (bt c9) (fun _ => ldP rfl sz31 ag31 rfl) rfl, oG rfl (fun _ => rfl) (bt c9) (fun _ => ixR (l := a1.Parts) (lit := TWeight.lit) sl31 rfl rfl TWeight.cells_lit (g13_11 c9).1 (g13_11 c9).2) rfl, oG rfl (fun _ => rfl) (bt c9) (fun _ => ldCG rfl sz33 ag33 rfl) rfl, fun S hS hD hn => .oneI hS hD hn (gT rfl rfl rfl (bt c9)) rfl (callee_of rfl go72 rfl) (.pure rfl rfl (hs72 _ _ _ (g13_13 c9))) rfl rfl rfl, oP (fun _ => pkTV rfl (bt c9) rfl) rfl, oP (fun _ => mvV rfl) rfl, oN rfl (fun _ => rfl) (nb c10) rfl, oN rfl (fun _ => rfl) (nb c10) rfl, oN rfl (fun _ => rfl) (nb c10) rfl, oN rfl (fun _ => rfl) (nb c10) rfl, oN rfl (fun _ => rfl) (nb c10) rfl, oN rfl (fun _ => rfl) (nb c10) rfl, oN rfl (fun _ => rfl) (nb c10) rfl, oN rfl (fun _ => rfl) (nb c10) rfl, oN rfl (fun _ => rfl) (nb c10) rfl, oP (fun _ => pkFV rfl (nb c10) rfl) rfl, oP (fun _ => asV rfl) rfl, trivial⟩) _ (by exact ⟨cB rfl (mAndT (bt c9) (mAndF (nb c10))), trivial⟩) (by rfl)
                · exact .drawM [(26, 4, bo false), (25, 77, bo false), (24, 76, und), (23, 75, und), (22, 74, und), (21, 73, und), (20, 72, und), (19, 71, und), (18, 70, und), (17, 69, und), (16, 68, und), (15, 67, bo false), (14, 66, bo false), (13, 65, und), (12, 64, und), (11, 63, und), (10, 62, und), (9, 61, und), (8, 60, und), (7, 59, und), (6, 58, und), (5, 57, und), (4, 56, bo ((a1.Parts.length : Int) == 2)), (3, 55, bo ((a1.Parts.length : Int) == 2)), (2, 54, i6 (a1.Parts.length : Int)), (1, 53, .rows (a1.Parts.map TWeight.cells)), (0, 52, .ptr 1 1 6 0 5)] [] GD_A0 (by rfl) (by rfl) (by rfl) (by exact ⟨oP (fun _ => faP fa33_4 rfl) rfl, oP (fun _ => ldP rfl sz31 ag31 rfl) rfl, oP (fun _ => lnR (l := a1.Parts) sl31 rfl) rfl, oP (fun _ => eqI rfl rfl) rfl, oP (fun _ => mvV rfl) rfl, oN rfl (fun _ => rfl) (bn c9) rfl, oN rfl (fun _ => rfl) (bn c9) rfl, oN rfl (fun _ => rfl) (bn c9) rfl, oN rfl (fun _ => rfl) (bn c9) rfl, oN rfl (fun _ => rfl) (bn c9) rfl, oN rfl (fun _ => rfl) (bn c9) rfl, oN rfl (fun _ => rfl) (bn c9) rfl, oN rfl (fun _ => rfl) (bn c9) rfl, oN rfl (fun _ => rfl) (bn c9) rfl, oP (fun _ => pkFV rfl (bn c9) rfl) rfl, oP (fun _ => mvV rfl) rfl, oN rfl (fun _ => rfl) rfl rfl, oN rfl (fun _ => rfl) rfl rfl, oN rfl (fun _ => rfl) rfl rfl, oN rfl (fun _ => rfl) rfl rfl, oN rfl (fun _ => rfl) rfl rfl, oN rfl (fun _ => rfl) rfl rfl, oN rfl (fun _ => rfl) rfl rfl, oN rfl (fun _ => rfl) rfl rfl, oN rfl (fun _ => rfl) rfl rfl, oP (fun _ => pkFV rfl rfl rfl) rfl, oP (fun _ => asV rfl) rfl, trivial⟩) _ (by exact ⟨cB rfl (mAndF (bn c9)), trivial⟩) (by rfl)
              replace h := h.symm
              subst h
              refine .kf [(4, bo (((a1.Parts.length : Int) == 2) && (t13_13 && t13_24)))] rfl rfl ?_
              exact .ret rfl
            · rw [if_neg c8] at h
              refine .condF rfl (bn c8) <| .skip <| .inBlock <| .seq <| .reg0 rfl (.op 0 rfl (asV rfl) <| .nil0) ?_
              replace h := h.symm
              subst h
              refine .kf [(4, bo true)] rfl rfl ?_
              exact .ret rfl
    · rw [if_neg c3] at h
      refine .condT rfl (bnotT (nb c3)) <| .seq <| .reg0 rfl (.op 0 rfl (asV rfl) <| .nil0) ?_
      replace h := h.symm
      subst h
      refine .kf [(4, bo false)] rfl rfl ?_
      exact .ret rfl
def weight_is.fN : Nat → TSpace → TWeight → Bool → Prop
  | 0 => fun _ _ _ => False
  | n + 1 => weight_is.step (weight_is.fN n)
theorem weight_is.ND : ∀ (n : Nat) {a0 : TSpace} {a1 : TWeight} {r : Bool} (h : weight_is.fN n a0 a1 r), D Tryz.prog X (.callH 72 [.agg (TSpace.lit a0), .agg (TWeight.lit a1)] [] (.val (.bool r)) [])
  | 0, _, _, _, h => h.elim
  | n + 1, _, _, _, h => weight_is.stepD (fun _ _ _ h => weight_is.ND n h) h
def weight_is.f (a0 : TSpace) (a1 : TWeight) (r : Bool) : Prop := ∃ n, weight_is.fN n a0 a1 r
theorem weight_is.D {a0 a1 r} (h : weight_is.f a0 a1 r) : D Tryz.prog X (.callH 72 [.agg (TSpace.lit a0), .agg (TWeight.lit a1)] [] (.val (.bool r)) []) := by obtain ⟨n, h⟩ := h; exact weight_is.ND n h
def weight_checked_1.f (a0 : TWeight) (f0 : TSpace) (r : Bool) : Prop :=
  ∃ t2_2 : Bool, (weight_is.f f0 a0 t2_2) ∧ r = (!t2_2)
theorem weight_checked_1.D {a0 f0 r} (h : weight_checked_1.f a0 f0 r) : D Tryz.prog X (.callH 71 [.agg (TWeight.lit a0), .cptr (TSpace.lit f0) 0] [] (.val (.bool r)) []) := by
  unfold weight_checked_1.f at h
  refine .enter 8 0 fn71 rfl rfl rfl <| .seq <| .room 0 <| .reg0 rfl (.op 0 rfl (bxP (s := 6) (cs := (TWeight.lit a0)) rfl ⟨rfl, by decide, rfl⟩ rfl) <| .op 0 rfl (asV rfl) <| .nil0) <| .seq ?_
  obtain ⟨t2_2, g2_2, h⟩ := h
  refine .reg0 rfl (.o (ldCG rfl sz25 ag25 rfl) <| .o (ldG rfl sz33 ag33 rfl) <| .c rfl go72 rfl rfl rfl (weight_is.D g2_2) <| .o (notB rfl) <| .a rfl <| .nil0) ?_
  replace h := h.symm
  subst h
  refine .kf [(3, bo (!t2_2))] rfl rfl ?_
  exact .ret rfl
def weight_checked.f (a0 : TSpace) (a1 : List TWeight) (r : Int) : Prop :=
  ∃ t2_1 : Int, (weight_Space.f a0 t2_1) ∧ if t2_1 = 0 then (∃ t4_2 : Bool, (slices_ContainsFunc_Weight.f a1 (fun x0_ y_ => weight_checked_1.f x0_ a0 y_) t4_2) ∧ if t4_2 = true then (r = 51) else (r = 0)) else (r = t2_1)
theorem weight_checked.D {a0 a1 r} (h : weight_checked.f a0 a1 r) : D Tryz.prog X (.callH 43 [.agg (TSpace.lit a0), .rows (a1.map TWeight.cells)] [] (.val (.int .i64 r)) []) := by
  unfold weight_checked.f at h
  refine .enter 14 0 fn43 rfl rfl rfl <| .seq <| .room 0 <| .reg0 rfl (.op 0 rfl (bxP (s := 3) (cs := (TSpace.lit a0)) rfl ⟨rfl, by decide, rfl⟩ rfl) <| .op 0 rfl (asV rfl) <| .nil0) <| .seq <| .seq ?_
  obtain ⟨t2_1, g2_1, h⟩ := h
  refine .reg0 rfl (.o (ldG rfl sz25 ag25 rfl) <| .c rfl go29 rfl rfl rfl (weight_Space.D g2_1) <| .a rfl <| .nil0) <| .seq <| .reg0 rfl (.op 0 rfl (mvV rfl) <| .op 0 rfl (neI rfl rfl) <| .nil0) ?_
  by_cases c1 : t2_1 = 0
  · rw [if_pos c1] at h
    refine .condF rfl (nf c1) <| .skip <| .seq <| .seq ?_
    obtain ⟨t4_2, g4_2, h⟩ := h
    refine .reg0 rfl (.o (mvR rfl) <| .o (mkF rfl) <| .callI rfl (callee_of rfl go70 rfl) (.lendC (args' := [.rows (a1.map TWeight.cells), .clo 71 [.cptr (TSpace.lit a0) 0]])  [0] false (.cons (.free rfl rfl) <| .cons (cClo (.cons (cFixP rfl rfl (.cons (.free rfl rfl) <| .cons (.free rfl rfl) <| .cons (.free rfl rfl) <| .nil)) <| .nil)) <| .nil) (by decide) rfl rfl rfl rfl (slices_ContainsFunc_Weight.D (k1_ := [.cptr (TSpace.lit a0) 0]) go71 rfl rfl (fun x0_ y_ h_ => weight_checked_1.D h_) g4_2)) <| .nil0) ?_
    by_cases c2 : t4_2 = true
    · rw [if_pos c2] at h
      refine .condT rfl c2 <| .seq <| .reg0 rfl (.op 0 rfl (asV rfl) <| .nil0) ?_
      replace h := h.symm
      subst h
      refine .kf [(4, i6 51)] rfl rfl ?_
      exact .ret rfl
    · rw [if_neg c2] at h
      refine .condF rfl (nb c2) <| .skip <| .seq <| .reg0 rfl (.op 0 rfl (asV rfl) <| .nil0) ?_
      replace h := h.symm
      subst h
      refine .kf [(4, i6 0)] rfl rfl ?_
      exact .ret rfl
  · rw [if_neg c1] at h
    refine .condT rfl (nt c1) <| .seq <| .reg0 rfl (.op 0 rfl (mvV rfl) <| .op 0 rfl (asV rfl) <| .nil0) ?_
    replace h := h.symm
    subst h
    refine .kf [(4, i6 t2_1)] rfl rfl ?_
    exact .ret rfl
def weight_zero.step (self41 : TSpace → TWeight → Prop) (a0 : TSpace) (r : TWeight) : Prop :=
  if a0.Tag = 5 then (((InR 0 a0.Parts.length)) ∧ ∃ t3_4 : TWeight, (self41 (rdl a0.Parts 0) t3_4) ∧ ((InR 1 a0.Parts.length)) ∧ ∃ t3_9 : TWeight, (self41 (rdl a0.Parts 1) t3_9) ∧ r = (TWeight.mk false 0 (TFacts.mk 0 []) [] [t3_4, t3_9])) else (r = (TWeight.mk true 0 (TFacts.mk 0 []) [] []))
theorem weight_zero.stepD {self41 : TSpace → TWeight → Prop} {a0 : TSpace} (hs41 : ∀ z0_ r_, self41 z0_ r_ → D Tryz.prog X (.callH 41 [.agg (TSpace.lit z0_)] [] (.agg (TWeight.lit r_)) [])) {r : TWeight} (h : weight_zero.step self41 a0 r) : D Tryz.prog X (.callH 41 [.agg (TSpace.lit a0)] [] (.agg (TWeight.lit r)) []) := by
  unfold weight_zero.step at h
  refine .enter 19 0 fn41 rfl rfl rfl <| .seq <| .room 0 <| .room 0 <| .reg0 rfl (.op 0 rfl (bxP (s := 3) (cs := (TSpace.lit a0)) rfl ⟨rfl, by decide, rfl⟩ rfl) <| .op 1 rfl (alP (s := 6) ze33 ⟨rfl, by decide, rfl⟩ rfl) <| .nil0) <| .seq <| .seq <| .reg0 rfl (.op 0 rfl (faP fa25_0 rfl) <| .op 0 rfl (ldP rfl sz22 ag22 rfl) <| .op 0 rfl (neI rfl rfl) <| .nil0) ?_
  by_cases c1 : a0.Tag = 5
  · rw [if_pos c1] at h
    refine .condF rfl (nf c1) <| .skip <| .seq ?_
    obtain ⟨g3_2, h⟩ := h
    obtain ⟨t3_4, g3_4, h⟩ := h
    obtain ⟨g3_7, h⟩ := h
    obtain ⟨t3_9, g3_9, h⟩ := h
    refine .room 0 ?_
    refine .reg1 (e1 := listEnv [(2, .ptr 1 1 6 0 0)]) (H1 := [⟨3, [(TSpace.lit a0)], 0, none⟩, ⟨6, [[bo false, i6 0, u6 0, nul, nul, .own 2 ([t3_4, t3_9].length)]], 0, none⟩, ⟨6, [t3_4, t3_9].map TWeight.cells, 0, none⟩]) rfl ?_ ?_
    · exact .drawM [(11, 18, .agg [bo false, i6 0, u6 0, nul, nul, .own 2 ([t3_4, t3_9].length)]), (10, 17, .own 2 ([t3_4, t3_9].length)), (9, 16, .agg (TWeight.lit t3_9)), (8, 15, .agg (TSpace.lit (rdl a0.Parts 1))), (7, 14, .cptr (TSpace.lit (rdl a0.Parts 1)) 0), (6, 13, .rows (a0.Parts.map TSpace.cells)), (5, 12, .ptr 0 1 3 0 2), (4, 11, .agg (TWeight.lit t3_4)), (3, 10, .agg (TSpace.lit (rdl a0.Parts 0))), (2, 9, .cptr (TSpace.lit (rdl a0.Parts 0)) 0), (1, 8, .rows (a0.Parts.map TSpace.cells)), (0, 7, .ptr 0 1 3 0 2)] [(12, 1, ⟨6, [[bo false, i6 0, u6 0, nul, nul, .own 2 ([t3_4, t3_9].length)]], 0, none⟩), (10, 2, ⟨6, [t3_4, t3_9].map TWeight.cells, 0, none⟩)] [[], [0], [1, 0], [2, 1, 0], [3, 2, 1, 0], [], [5], [6, 5], [7, 6, 5], [8, 7, 6, 5, 4, 3, 2, 1, 0], [4, 3, 2, 1, 0, 9, 8, 7, 6, 5], [10, 4, 3, 2, 1, 0, 9, 8, 7, 6, 5], [11, 10, 4, 3, 2, 1, 0, 9, 8, 7, 6, 5]] (by rfl) (by rfl) (by rfl) (by exact ⟨oP (fun _ => faP fa25_2 rfl) rfl, oP (fun _ => ldP rfl sz23 ag23 rfl) rfl, oP (fun _ => ixR (l := a0.Parts) (lit := TSpace.lit) sl23 rfl rfl TSpace.cells_lit g3_2.1 g3_2.2) rfl, oP (fun _ => ldCG rfl sz25 ag25 rfl) rfl, fun S hS hD hn => .oneI hS hD hn rfl rfl (callee_of rfl go41 rfl) (.pure rfl rfl (hs41 _ _ g3_4)) rfl rfl rfl, oP (fun _ => faP fa25_2 rfl) rfl, oP (fun _ => ldP rfl sz23 ag23 rfl) rfl, oP (fun _ => ixR (l := a0.Parts) (lit := TSpace.lit) sl23 rfl rfl TSpace.cells_lit g3_7.1 g3_7.2) rfl, oP (fun _ => ldCG rfl sz25 ag25 rfl) rfl, fun S hS hD hn => .oneI hS hD hn rfl rfl (callee_of rfl go41 rfl) (.pure rfl rfl (hs41 _ _ g3_9)) rfl rfl rfl, oW 2 (fun _ => bldT (s := 6) (cs := [bo t3_4.Zero, i6 t3_4.Cost, u6 t3_4.Facts.Gen, .rows (t3_4.Facts.Rows.map (cInt .u64)), .rows (t3_4.Cells.map TCell.cells), .rows (t3_4.Parts.map TWeight.cells), bo t3_9.Zero, i6 t3_9.Cost, u6 t3_9.Facts.Gen, .rows (t3_9.Facts.Rows.map (cInt .u64)), .rows (t3_9.Cells.map TCell.cells), .rows (t3_9.Parts.map TWeight.cells)]) (cf := TWeight.cells) [t3_4, t3_9] un31 sz33 ze33 ⟨by decide, rfl, by decide⟩ rfl rfl rfl (by simp only [List.map, TWeight.cells_lit]; rfl) rfl) rfl fun _ => rfl, oP (fun _ => bldS (cs := [bo false, i6 0, u6 0, nul, nul, .own 2 ([t3_4, t3_9].length)]) ze33 pl33 rfl rfl) rfl, fun S hS hD hn => .one0 0 rfl rfl (stB (cs0 := GD_c1) (cs := [bo false, i6 0, u6 0, nul, nul, .own 2 ([t3_4, t3_9].length)]) (cs1 := [bo false, i6 0, u6 0, nul, nul, .own 2 ([t3_4, t3_9].length)]) rfl rfl sz33 rfl ⟨Nat.le_of_ble_eq_true rfl, rfl⟩ rfl) (drawE_other _ _ _ _ rfl) rfl, trivial⟩) _ (by exact ⟨.ptr rfl, trivial⟩) (by rfl)
    replace h := h.symm
    subst h
    refine .k [(2, .cptr [bo false, i6 0, u6 0, .rows (([] : List Int).map (cInt .u64)), .rows (([] : List TCell).map TCell.cells), .rows ([t3_4, t3_9].map TWeight.cells)] 0)] ⟨cFixP rfl rfl (.cons (.free rfl rfl) <| .cons (.free rfl rfl) <| .cons (.free rfl rfl) <| .cons (.nil) <| .cons (.nil) <| .cons (cFixO (l := [t3_4, t3_9]) sl31 rfl rfl rfl rfl) <| .nil), trivial⟩ ?_
    exact .ret rfl
  · rw [if_neg c1] at h
    refine .condT rfl (nt c1) <| .seq <| .reg0 rfl (.op 0 rfl (bldS (cs := GD_c2) ze33 pl33 rfl rfl) <| .op 0 rfl (stB (cs0 := GD_c1) (cs := GD_c2) (cs1 := GD_c2) rfl rfl sz33 rfl ⟨Nat.le_of_ble_eq_true rfl, rfl⟩ rfl) <| .nil0) ?_
    replace h := h.symm
    subst h
    refine .k [(2, .cptr [bo true, i6 0, u6 0, .rows (([] : List Int).map (cInt .u64)), .rows (([] : List TCell).map TCell.cells), .rows (([] : List TWeight).map TWeight.cells)] 0)] ⟨cFixP rfl rfl (.cons (.free rfl rfl) <| .cons (.free rfl rfl) <| .cons (.free rfl rfl) <| .cons (.nil) <| .cons (.nil) <| .cons (.nil) <| .nil), trivial⟩ ?_
    exact .ret rfl
def weight_zero.fN : Nat → TSpace → TWeight → Prop
  | 0 => fun _ _ => False
  | n + 1 => weight_zero.step (weight_zero.fN n)
theorem weight_zero.ND : ∀ (n : Nat) {a0 : TSpace} {r : TWeight} (h : weight_zero.fN n a0 r), D Tryz.prog X (.callH 41 [.agg (TSpace.lit a0)] [] (.agg (TWeight.lit r)) [])
  | 0, _, _, h => h.elim
  | n + 1, _, _, h => weight_zero.stepD (fun _ _ h => weight_zero.ND n h) h
def weight_zero.f (a0 : TSpace) (r : TWeight) : Prop := ∃ n, weight_zero.fN n a0 r
theorem weight_zero.D {a0 r} (h : weight_zero.f a0 r) : D Tryz.prog X (.callH 41 [.agg (TSpace.lit a0)] [] (.agg (TWeight.lit r)) []) := by obtain ⟨n, h⟩ := h; exact weight_zero.ND n h
end Go.RM.Tryz
