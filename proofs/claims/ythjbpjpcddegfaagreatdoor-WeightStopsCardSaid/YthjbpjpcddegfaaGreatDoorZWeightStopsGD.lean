/- GD, for the statement WeightStops: what it needs, no more. -/
import Derived.Test.YthjbpjpcddegfaaGreatDoorZWeightStopsGC
set_option linter.unusedVariables false
set_option maxRecDepth 8000
set_option maxHeartbeats 4000000
namespace Go.RM.Tryz
open Go.RM Go.Proofs
def cells_Check.b1 (a0 : Int) (a1 : List TCell) : Int → Rnd Int Unit Int → Prop := fun x1 z1 => if x1 < (a1.length : Int) then (((InR x1 a1.length)) ∧ ∃ t18_2 : Bool, (cells_right.f a0 (rdl a1 x1) t18_2) ∧ if t18_2 = true then (z1 = .next (IntKind.i64.wrap (x1 + 1))) else (z1 = .ret 40)) else (z1 = .exit ())
def cells_Check.f (a0 : Int) (a1 : List TCell) (r : Int) : Prop :=
  ∃ t2_1 : Int, (cells_dims.f a0 t2_1) ∧ if t2_1 = 0 then (if (a1.length : Int) = a0 then (∃ o1 : Fin Unit Int, Loop (cells_Check.b1 a0 a1) 0 o1 ∧ o1.on (fun _ => r = 0) (fun r_ => r = r_)) else (r = 40)) else (r = t2_1)
abbrev GD_c0 : List PV := [u6 0, i6 0, i6 0]
abbrev GD_c1 : List PV := [bo false, i6 0, u6 0, nul, nul, nul]
abbrev GD_c2 : List PV := [bo true, i6 0, u6 0, nul, nul, nul]
abbrev GD_c3 : List PV := [u6 0, i6 2, i6 0]
theorem cells_Check.D {a0 a1 r} (h : cells_Check.f a0 a1 r) : D Tryz.prog X (.callH 121 [.val (.int .i64 a0), .rows (a1.map TCell.cells)] [] (.val (.int .i64 r)) []) := by
  unfold cells_Check.f at h
  refine .enter 28 0 fn121 rfl rfl rfl <| .seq <| .reg0 rfl (.op 0 rfl (asV rfl) <| .nil0) <| .seq <| .seq ?_
  obtain ⟨t2_1, g2_1, h⟩ := h
  refine .reg0 rfl (.m rfl <| .c rfl go89 rfl rfl rfl (cells_dims.D g2_1) <| .a rfl <| .nil0) <| .seq <| .reg0 rfl (.op 0 rfl (mvV rfl) <| .op 0 rfl (neI rfl rfl) <| .nil0) ?_
  by_cases c1 : t2_1 = 0
  · rw [if_pos c1] at h
    refine .condF rfl (nf c1) <| .skip <| .seq <| .seq <| .reg0 rfl (.op 0 rfl (mvR rfl) <| .op 0 rfl (lnR (l := a1) sl30 rfl) <| .op 0 rfl (mvV rfl) <| .op 0 rfl (neI rfl rfl) <| .nil0) ?_
    by_cases c2 : (a1.length : Int) = a0
    · rw [if_pos c2] at h
      refine .condF rfl (nf c2) <| .skip <| .seq <| .seq <| .reg0 rfl (.op 0 rfl (mvR rfl) <| .op 0 rfl (lnR (l := a1) sl30 rfl) <| .op 0 rfl (mvV rfl) <| .nil0) <| .block <| .keepL [] [(0, i6 a0), (17, .rows (a1.map TCell.cells)), (18, i6 (a1.length : Int)), (19, i6 0)] [] (by decide) (by decide) ⟨.free rfl rfl, .free rfl rfl, .free rfl rfl, .free rfl rfl, trivial⟩ trivial ?_
      obtain ⟨o1, hL1, h⟩ := h
      refine .loopB (cells_Check.b1 a0 a1) (fun x1 => listEnv [(0, i6 a0), (17, .rows (a1.map TCell.cells)), (18, i6 (a1.length : Int)), (19, i6 x1)]) (fun x1 => []) (fun _ => listEnv []) (fun _ => []) hL1 (fun r_ => r = r_) ?_ ?_ ?_
      · rintro ⟨⟩ rfl
        try dsimp only [Fin.on] at h
        refine .seq <| .reg0 rfl (.op 0 rfl (asV rfl) <| .nil0) ?_
        replace h := h.symm
        subst h
        refine .kf [(4, i6 0)] rfl rfl ?_
        exact .ret rfl
      · rintro r_ rfl
        exact h
      · rintro x1 z1 h hn1 hx1 hr1
        dsimp only [cells_Check.b1] at h
        refine .seq <| .reg0 rfl (.op 0 rfl (ltI rfl rfl) <| .nil0) <| .seq ?_
        by_cases c7 : x1 < (a1.length : Int)
        · rw [if_pos c7] at h
          refine .condT rfl (dt c7) <| .skip <| .seq <| .block <| .seq ?_
          obtain ⟨g17_0, h⟩ := h
          refine .room 0 <| .reg0 rfl (.op 0 rfl (ixR (l := a1) (lit := TCell.lit) sl30 rfl rfl (fun _ => rfl) g17_0.1 g17_0.2) <| .op 0 rfl (ldCG rfl sz74 ag74 rfl) <| .op 0 rfl (alP (s := 3) ze74 ⟨rfl, by decide, rfl⟩ rfl) <| .op 0 rfl (stB (cs0 := GD_c0) (cs := (TCell.lit (rdl a1 x1))) (cs1 := (TCell.lit (rdl a1 x1))) rfl rfl sz74 rfl ⟨Nat.le_of_ble_eq_true rfl, rfl⟩ rfl) <| .nil0) <| .seq ?_
          obtain ⟨t18_2, g18_2, h⟩ := h
          refine .reg0 rfl (.m rfl <| .o (ldG rfl sz74 ag74 rfl) <| .c rfl go151 rfl rfl rfl (cells_right.D g18_2) <| .o (notB rfl) <| .nil0) ?_
          by_cases c8 : t18_2 = true
          · rw [if_pos c8] at h
            refine .condF rfl (bnotF c8) <| .skip <| .inBlock <| .reg0 rfl (.op 0 rfl (addI rfl rfl) <| .op 0 rfl (mvV rfl) <| .nil0) <| .kf [(0, i6 a0), (17, .rows (a1.map TCell.cells)), (18, i6 (a1.length : Int)), (19, i6 (IntKind.i64.wrap (x1 + 1)))] rfl rfl ?_
            exact hn1 _ h
          · rw [if_neg c8] at h
            refine .condT rfl (bnotT (nb c8)) <| .seq <| .reg0 rfl (.op 0 rfl (asV rfl) <| .nil0) ?_
            have q3 := hr1 _ h
            replace q3 := q3.symm
            subst q3
            refine .kf [(4, i6 40)] rfl rfl ?_
            exact .ret rfl
        · rw [if_neg c7] at h
          refine .condF rfl (df c7) <| .exit rfl <| .keepL [] [] [] (by decide) (by decide) trivial trivial ?_
          exact hx1 _ h
    · rw [if_neg c2] at h
      refine .condT rfl (nt c2) <| .seq <| .reg0 rfl (.op 0 rfl (asV rfl) <| .nil0) ?_
      replace h := h.symm
      subst h
      refine .kf [(4, i6 40)] rfl rfl ?_
      exact .ret rfl
  · rw [if_neg c1] at h
    refine .condT rfl (nt c1) <| .seq <| .reg0 rfl (.op 0 rfl (mvV rfl) <| .op 0 rfl (asV rfl) <| .nil0) ?_
    replace h := h.symm
    subst h
    refine .kf [(4, i6 t2_1)] rfl rfl ?_
    exact .ret rfl
def weight_is.step (self72 : TSpace → TWeight → Bool → Prop) (a0 : TSpace) (a1 : TWeight) (r : Bool) : Prop :=
  if a1.Zero = true then (∃ t3_5 : Bool, (¬ (a0.Tag = 5) → weight_bare.f a1 0 t3_5) ∧ r = ((!(a0.Tag == 5)) && t3_5)) else (∃ t4_3 : Bool, (weight_bare.f a1 a0.Tag t4_3) ∧ if t4_3 = true then (if a0.Tag = 2 then (∃ t7_8 : Int, (¬ (a1.Cost = (-1)) → cost_Check.f a0.Dim a1.Cost t7_8) ∧ r = ((!(a1.Cost == (-1))) && (t7_8 == 0))) else (if a0.Tag = 3 then (∃ t9_4 : Int, (facts_Check.f a0.Dim a1.Facts t9_4) ∧ r = (t9_4 == 0)) else (if a0.Tag = 4 then (∃ t11_4 : Int, (cells_Check.f a0.Dim a1.Cells t11_4) ∧ r = (t11_4 == 0)) else (if a0.Tag = 5 then ((((a1.Parts.length : Int) = 2) → (InR 0 a0.Parts.length)) ∧ (((a1.Parts.length : Int) = 2) → (InR 0 a1.Parts.length)) ∧ ∃ t13_13 : Bool, (((a1.Parts.length : Int) = 2) → self72 (rdl a0.Parts 0) (rdl a1.Parts 0) t13_13) ∧ (((a1.Parts.length : Int) = 2) → (t13_13 = true) → (InR 1 a0.Parts.length)) ∧ (((a1.Parts.length : Int) = 2) → (t13_13 = true) → (InR 1 a1.Parts.length)) ∧ ∃ t13_24 : Bool, (((a1.Parts.length : Int) = 2) → (t13_13 = true) → self72 (rdl a0.Parts 1) (rdl a1.Parts 1) t13_24) ∧ r = (((a1.Parts.length : Int) == 2) && (t13_13 && t13_24))) else (r = true))))) else (r = false))
abbrev GD_A0 : List (List Nat) := [[], [0], [1, 0], [2, 1, 0], [3, 2, 1, 0], [4, 3, 2, 1, 0], [5, 4, 3, 2, 1, 0], [6, 5, 4, 3, 2, 1, 0], [7, 6, 5, 4, 3, 2, 1, 0], [4, 3, 2, 1, 0], [9, 4, 3, 2, 1, 0], [10, 9, 4, 3, 2, 1, 0], [11, 10, 9, 4, 3, 2, 1, 0], [8, 7, 6, 5, 4, 3, 2, 1, 0, 12, 11, 10, 9], [4, 3, 2, 1, 0, 13, 8, 7, 6, 5, 12, 11, 10, 9], [14, 4, 3, 2, 1, 0, 13, 8, 7, 6, 5, 12, 11, 10, 9], [15, 14, 4, 3, 2, 1, 0, 13, 8, 7, 6, 5, 12, 11, 10, 9], [16, 15, 14, 4, 3, 2, 1, 0, 13, 8, 7, 6, 5, 12, 11, 10, 9], [17, 16, 15, 14, 4, 3, 2, 1, 0, 13, 8, 7, 6, 5, 12, 11, 10, 9], [18, 17, 16, 15, 14, 4, 3, 2, 1, 0, 13, 8, 7, 6, 5, 12, 11, 10, 9], [15, 14, 4, 3, 2, 1, 0, 13, 8, 7, 6, 5, 12, 11, 10, 9], [20, 15, 14, 4, 3, 2, 1, 0, 13, 8, 7, 6, 5, 12, 11, 10, 9], [21, 20, 15, 14, 4, 3, 2, 1, 0, 13, 8, 7, 6, 5, 12, 11, 10, 9], [22, 21, 20, 15, 14, 4, 3, 2, 1, 0, 13, 8, 7, 6, 5, 12, 11, 10, 9], [19, 18, 17, 16, 15, 14, 4, 3, 2, 1, 0, 13, 8, 7, 6, 5, 12, 11, 10, 9, 23, 22, 21, 20], [15, 14, 4, 3, 2, 1, 0, 13, 8, 7, 6, 5, 12, 11, 10, 9, 24, 19, 18, 17, 16, 23, 22, 21, 20], [25, 15, 14, 4, 3, 2, 1, 0, 13, 8, 7, 6, 5, 12, 11, 10, 9, 24, 19, 18, 17, 16, 23, 22, 21, 20]]
theorem weight_is.stepD {self72 : TSpace → TWeight → Bool → Prop} {a0 : TSpace} {a1 : TWeight} (hs72 : ∀ z0_ z1_ r_, self72 z0_ z1_ r_ → D Tryz.prog X (.callH 72 [.agg (TSpace.lit z0_), .agg (TWeight.lit z1_)] [] (.val (.bool r_)) [])) {r : Bool} (h : weight_is.step self72 a0 a1 r) : D Tryz.prog X (.callH 72 [.agg (TSpace.lit a0), .agg (TWeight.lit a1)] [] (.val (.bool r)) []) := by
  unfold weight_is.step at h
  refine .enter 78 0 fn72 rfl rfl rfl <| .seq <| .room 0 <| .room 0 <| .reg0 rfl (.op 0 rfl (bxP (s := 3) (cs := (TSpace.lit a0)) rfl ⟨rfl, by decide, rfl⟩ rfl) <| .op 1 rfl (bxP (s := 6) (cs := (TWeight.lit a1)) rfl ⟨rfl, by decide, rfl⟩ rfl) <| .op 0 rfl (asV rfl) <| .nil0) <| .seq <| .seq <| .reg0 rfl (.op 0 rfl (faP fa33_0 rfl) <| .op 0 rfl (ldP rfl sz4 ag4 rfl) <| .nil0) ?_
  by_cases c1 : a1.Zero = true
  · rw [if_pos c1] at h
    refine .condT rfl c1 <| .seq ?_
    obtain ⟨t3_5, g3_5, h⟩ := h
    refine .reg0 (e1 := listEnv [(4, bo ((!(a0.Tag == 5)) && t3_5))]) (H1 := [⟨3, [(TSpace.lit a0)], 0, none⟩, ⟨6, [(TWeight.lit a1)], 0, none⟩]) rfl ?_ ?_
    · refine .o (faP fa25_0 rfl) <| .o (ldP rfl sz22 ag22 rfl) <| .o (neI rfl rfl) <| .m rfl <| ?_
      by_cases c2 : a0.Tag = 5
      · exact (.n rfl (nf c2) <| .n rfl (nf c2) <| .o (pkFV rfl (nf c2) rfl) <| .a rfl <| .nilL _ ⟨cB rfl (mAndF (bnotF (bt c2))), trivial⟩)
      · exact (.g rfl (nt c2) (ldG rfl sz33 ag33 rfl) <| .callI (gT rfl rfl rfl (nt c2)) (callee_of rfl go118 rfl) (.pure rfl rfl (weight_bare.D (g3_5 c2))) <| .o (pkTV rfl (nt c2) rfl) <| .a rfl <| .nilL _ ⟨cB rfl (mAndT (bnotT (bn c2)) rfl), trivial⟩)
    replace h := h.symm
    subst h
    refine .kf [(4, bo ((!(a0.Tag == 5)) && t3_5))] rfl rfl ?_
    exact .ret rfl
  · rw [if_neg c1] at h
    refine .condF rfl (nb c1) <| .skip <| .seq <| .seq ?_
    obtain ⟨t4_3, g4_3, h⟩ := h
    refine .reg0 rfl (.o (ldG rfl sz33 ag33 rfl) <| .o (faP fa25_0 rfl) <| .o (ldP rfl sz22 ag22 rfl) <| .c rfl go118 rfl rfl rfl (weight_bare.D g4_3) <| .o (notB rfl) <| .nil0) ?_
    by_cases c3 : t4_3 = true
    · rw [if_pos c3] at h
      refine .condF rfl (bnotF c3) <| .skip <| .seq <| .seq <| .reg0 rfl (.op 0 rfl (faP fa25_0 rfl) <| .op 0 rfl (ldP rfl sz22 ag22 rfl) <| .nil0) <| .block <| .seq <| .reg0 rfl (.op 0 rfl (eqI rfl rfl) <| .op 0 rfl (asV rfl) <| .nil0) ?_
      by_cases c4 : a0.Tag = 2
      · rw [if_pos c4] at h
        refine .condT rfl (bt c4) <| .seq ?_
        obtain ⟨t7_8, g7_8, h⟩ := h
        refine .reg0 (e1 := listEnv [(4, bo ((!(a1.Cost == (-1))) && (t7_8 == 0)))]) (H1 := [⟨3, [(TSpace.lit a0)], 0, none⟩, ⟨6, [(TWeight.lit a1)], 0, none⟩]) rfl ?_ ?_
        · refine .o (faP fa33_1 rfl) <| .o (ldP rfl sz3 ag3 rfl) <| .o (neI rfl rfl) <| .m rfl <| ?_
          by_cases c5 : a1.Cost = (-1)
          · exact (.n rfl (nf c5) <| .n rfl (nf c5) <| .n rfl (nf c5) <| .n rfl (nf c5) <| .n rfl (nf c5) <| .n rfl (nf c5) <| .o (pkFV rfl (nf c5) rfl) <| .a rfl <| .nilL _ ⟨cB rfl (mAndF (bnotF (bt c5))), trivial⟩)
          · exact (.g rfl (nt c5) (faP fa25_1 rfl) <| .g rfl (nt c5) (ldP rfl sz3 ag3 rfl) <| .g rfl (nt c5) (faP fa33_1 rfl) <| .g rfl (nt c5) (ldP rfl sz3 ag3 rfl) <| .callI (gT rfl rfl rfl (nt c5)) (callee_of rfl go119 rfl) (.pure rfl rfl (cost_Check.D (g7_8 c5))) <| .g rfl (nt c5) (eqI rfl rfl) <| .o (pkTV rfl (nt c5) rfl) <| .a rfl <| .nilL _ ⟨cB rfl (mAndT (bnotT (bn c5)) rfl), trivial⟩)
        replace h := h.symm
        subst h
        refine .kf [(4, bo ((!(a1.Cost == (-1))) && (t7_8 == 0)))] rfl rfl ?_
        exact .ret rfl
      · rw [if_neg c4] at h
        refine .condF rfl (bn c4) <| .seq <| .reg0 rfl (.op 0 rfl (eqI rfl rfl) <| .op 0 rfl (asV rfl) <| .nil0) ?_
        by_cases c6 : a0.Tag = 3
        · rw [if_pos c6] at h
          refine .condT rfl (bt c6) <| .seq ?_
          obtain ⟨t9_4, g9_4, h⟩ := h
          refine .reg0 rfl (.o (faP fa25_1 rfl) <| .o (ldP rfl sz3 ag3 rfl) <| .o (faP fa33_2 rfl) <| .o (ldG rfl sz29 ag29 rfl) <| .c rfl go120 rfl rfl rfl (facts_Check.D g9_4) <| .o (eqI rfl rfl) <| .a rfl <| .nil0) ?_
          replace h := h.symm
          subst h
          refine .kf [(4, bo (t9_4 == 0))] rfl rfl ?_
          exact .ret rfl
        · rw [if_neg c6] at h
          refine .condF rfl (bn c6) <| .seq <| .reg0 rfl (.op 0 rfl (eqI rfl rfl) <| .op 0 rfl (asV rfl) <| .nil0) ?_
          by_cases c7 : a0.Tag = 4
          · rw [if_pos c7] at h
            refine .condT rfl (bt c7) <| .seq ?_
            obtain ⟨t11_4, g11_4, h⟩ := h
            refine .reg0 rfl (.o (faP fa25_1 rfl) <| .o (ldP rfl sz3 ag3 rfl) <| .o (faP fa33_3 rfl) <| .o (ldP rfl sz30 ag30 rfl) <| .c rfl go121 rfl rfl rfl (cells_Check.D g11_4) <| .o (eqI rfl rfl) <| .a rfl <| .nil0) ?_
            replace h := h.symm
            subst h
            refine .kf [(4, bo (t11_4 == 0))] rfl rfl ?_
            exact .ret rfl
          · rw [if_neg c7] at h
            refine .condF rfl (bn c7) <| .seq <| .reg0 rfl (.op 0 rfl (eqI rfl rfl) <| .op 0 rfl (asV rfl) <| .nil0) ?_
            by_cases c8 : a0.Tag = 5
            · rw [if_pos c8] at h
              refine .condT rfl (bt c8) <| .seq ?_
              obtain ⟨g13_7, h⟩ := h
              obtain ⟨g13_11, h⟩ := h
              obtain ⟨t13_13, g13_13, h⟩ := h
              obtain ⟨g13_18, h⟩ := h
              obtain ⟨g13_22, h⟩ := h
              obtain ⟨t13_24, g13_24, h⟩ := h
              refine .reg1 (e1 := listEnv [(4, bo (((a1.Parts.length : Int) == 2) && (t13_13 && t13_24)))]) (H1 := [⟨3, [(TSpace.lit a0)], 0, none⟩, ⟨6, [(TWeight.lit a1)], 0, none⟩]) rfl ?_ ?_
              · by_cases c9 : (a1.Parts.length : Int) = 2
                · by_cases c10 : t13_13 = true
                  · exact .drawM [(26, 4, bo t13_24), (25, 77, bo t13_24), (24, 76, bo t13_24), (23, 75, .agg (TWeight.lit (rdl a1.Parts 1))), (22, 74, .cptr (TWeight.lit (rdl a1.Parts 1)) 0), (21, 73, .rows (a1.Parts.map TWeight.cells)), (20, 72, .ptr 1 1 6 0 5), (19, 71, .agg (TSpace.lit (rdl a0.Parts 1))), (18, 70, .cptr (TSpace.lit (rdl a0.Parts 1)) 0), (17, 69, .rows (a0.Parts.map TSpace.cells)), (16, 68, .ptr 0 1 3 0 2), (15, 67, bo t13_13), (14, 66, bo t13_13), (13, 65, bo t13_13), (12, 64, .agg (TWeight.lit (rdl a1.Parts 0))), (11, 63, .cptr (TWeight.lit (rdl a1.Parts 0)) 0), (10, 62, .rows (a1.Parts.map TWeight.cells)), (9, 61, .ptr 1 1 6 0 5), (8, 60, .agg (TSpace.lit (rdl a0.Parts 0))), (7, 59, .cptr (TSpace.lit (rdl a0.Parts 0)) 0), (6, 58, .rows (a0.Parts.map TSpace.cells)), (5, 57, .ptr 0 1 3 0 2), (4, 56, bo ((a1.Parts.length : Int) == 2)), (3, 55, bo ((a1.Parts.length : Int) == 2)), (2, 54, i6 (a1.Parts.length : Int)), (1, 53, .rows (a1.Parts.map TWeight.cells)), (0, 52, .ptr 1 1 6 0 5)] [] GD_A0 (by rfl) (by rfl) (by rfl) (by exact ⟨oP (fun _ => faP fa33_4 rfl) rfl, oP (fun _ => ldP rfl sz31 ag31 rfl) rfl, oP (fun _ => lnR (l := a1.Parts) sl31 rfl) rfl, oP (fun _ => eqI rfl rfl) rfl, oP (fun _ => mvV rfl) rfl, oG rfl (fun _ => rfl) (bt c9) (fun _ => faP fa25_2 rfl) rfl, oG rfl (fun _ => rfl) (bt c9) (fun _ => ldP rfl sz23 ag23 rfl) rfl, oG rfl (fun _ => rfl) (bt c9) (fun _ => ixR (l := a0.Parts) (lit := TSpace.lit) sl23 rfl rfl TSpace.cells_lit (g13_7 c9).1 (g13_7 c9).2) rfl, oG rfl (fun _ => rfl) (bt c9) (fun _ => ldCG rfl sz25 ag25 rfl) rfl, oG rfl (fun _ => rfl) (bt c9) (fun _ => faP fa33_4 rfl) rfl, oG rfl (fun _ => rfl) (bt c9) (fun _ => ldP rfl sz31 ag31 rfl) rfl, oG rfl (fun _ => rfl) (bt c9) (fun _ => ixR (l := a1.Parts) (lit := TWeight.lit) sl31 rfl rfl TWeight.cells_lit (g13_11 c9).1 (g13_11 c9).2) rfl, oG rfl (fun _ => rfl) (bt c9) (fun _ => ldCG rfl sz33 ag33 rfl) rfl, fun S hS hD hn => .oneI hS hD hn (gT rfl rfl rfl (bt c9)) rfl (callee_of rfl go72 rfl) (.pure rfl rfl (hs72 _ _ _ (g13_13 c9))) rfl rfl rfl, oP (fun _ => pkTV rfl (bt c9) rfl) rfl, oP (fun _ => mvV rfl) rfl, oG rfl (fun _ => rfl) c10 (fun _ => faP fa25_2 rfl) rfl, oG rfl (fun _ => rfl) c10 (fun _ => ldP rfl sz23 ag23 rfl) rfl, oG rfl (fun _ => rfl) c10 (fun _ => ixR (l := a0.Parts) (lit := TSpace.lit) sl23 rfl rfl TSpace.cells_lit (g13_18 c9 c10).1 (g13_18 c9 c10).2) rfl, oG rfl (fun _ => rfl) c10 (fun _ => ldCG rfl sz25 ag25 rfl) rfl, oG rfl (fun _ => rfl) c10 (fun _ => faP fa33_4 rfl) rfl, oG rfl (fun _ => rfl) c10 (fun _ => ldP rfl sz31 ag31 rfl) rfl, oG rfl (fun _ => rfl) c10 (fun _ => ixR (l := a1.Parts) (lit := TWeight.lit) sl31 rfl rfl TWeight.cells_lit (g13_22 c9 c10).1 (g13_22 c9 c10).2) rfl, oG rfl (fun _ => rfl) c10 (fun _ => ldCG rfl sz33 ag33 rfl) rfl, fun S hS hD hn => .oneI hS hD hn (gT rfl rfl rfl c10) rfl (callee_of rfl go72 rfl) (.pure rfl rfl (hs72 _ _ _ (g13_24 c9 c10))) rfl rfl rfl, oP (fun _ => pkTV rfl c10 rfl) rfl, oP (fun _ => asV rfl) rfl, trivial⟩) _ (by exact ⟨cB rfl (mAndT (bt c9) (mAndT c10 rfl)), trivial⟩) (by rfl)
                  · exact .drawM [(26, 4, bo false), (25, 77, bo false), (24, 76, und), (23, 75, und), (22, 74, und), (21, 73, und), (20, 72, und), (19, 71, und), (18, 70, und), (17, 69, und), (16, 68, und), (15, 67, bo t13_13), (14, 66, bo t13_13), (13, 65, bo t13_13), (12, 64, .agg (TWeight.lit (rdl a1.Parts 0))), (11, 63, .cptr (TWeight.lit (rdl a1.Parts 0)) 0), (10, 62, .rows (a1.Parts.map TWeight.cells)), (9, 61, .ptr 1 1 6 0 5), (8, 60, .agg (TSpace.lit (rdl a0.Parts 0))), (7, 59, .cptr (TSpace.lit (rdl a0.Parts 0)) 0), (6, 58, .rows (a0.Parts.map TSpace.cells)), (5, 57, .ptr 0 1 3 0 2), (4, 56, bo ((a1.Parts.length : Int) == 2)), (3, 55, bo ((a1.Parts.length : Int) == 2)), (2, 54, i6 (a1.Parts.length : Int)), (1, 53, .rows (a1.Parts.map TWeight.cells)), (0, 52, .ptr 1 1 6 0 5)] [] GD_A0 (by rfl) (by rfl) (by rfl) (by exact ⟨oP (fun _ => faP fa33_4 rfl) rfl, oP (fun _ => ldP rfl sz31 ag31 rfl) rfl, oP (fun _ => lnR (l := a1.Parts) sl31 rfl) rfl, oP (fun _ => eqI rfl rfl) rfl, oP (fun _ => mvV rfl) rfl, oG rfl (fun _ => rfl) (bt c9) (fun _ => faP fa25_2 rfl) rfl, oG rfl (fun _ => rfl) (bt c9) (fun _ => ldP rfl sz23 ag23 rfl) rfl, oG rfl (fun _ => rfl) (bt c9) (fun _ => ixR (l := a0.Parts) (lit := TSpace.lit) sl23 rfl rfl TSpace.cells_lit (g13_7 c9).1 (g13_7 c9).2) rfl, oG rfl (fun _ => rfl) (bt c9) (fun _ => ldCG rfl sz25 ag25 rfl) rfl, oG rfl (fun _ => rfl) (bt c9) (fun _ => faP fa33_4 rfl) rfl, oG rfl (fun _ => rfl) (bt c9) (fun _ => ldP rfl sz31 ag31 rfl) rfl, oG rfl (fun _ => rfl) (bt c9) (fun _ => ixR (l := a1.Parts) (lit := TWeight.lit) sl31 rfl rfl TWeight.cells_lit (g13_11 c9).1 (g13_11 c9).2) rfl, oG rfl (fun _ => rfl) (bt c9) (fun _ => ldCG rfl sz33 ag33 rfl) rfl, fun S hS hD hn => .oneI hS hD hn (gT rfl rfl rfl (bt c9)) rfl (callee_of rfl go72 rfl) (.pure rfl rfl (hs72 _ _ _ (g13_13 c9))) rfl rfl rfl, oP (fun _ => pkTV rfl (bt c9) rfl) rfl, oP (fun _ => mvV rfl) rfl, oN rfl (fun _ => rfl) (nb c10) rfl, oN rfl (fun _ => rfl) (nb c10) rfl, oN rfl (fun _ => rfl) (nb c10) rfl, oN rfl (fun _ => rfl) (nb c10) rfl, oN rfl (fun _ => rfl) (nb c10) rfl, oN rfl (fun _ => rfl) (nb c10) rfl, oN rfl (fun _ => rfl) (nb c10) rfl, oN rfl (fun _ => rfl) (nb c10) rfl, oN rfl (fun _ => rfl) (nb c10) rfl, oP (fun _ => pkFV rfl (nb c10) rfl) rfl, oP (fun _ => asV rfl) rfl, trivial⟩) _ (by exact ⟨cB rfl (mAndT (bt c9) (mAndF (nb c10))), trivial⟩) (by rfl)
                · exact .drawM [(26, 4, bo false), (25, 77, bo false), (24, 76, und), (23, 75, und), (22, 74, und), (21, 73, und), (20, 72, und), (19, 71, und), (18, 70, und), (17, 69, und), (16, 68, und), (15, 67, bo false), (14, 66, bo false), (13, 65, und), (12, 64, und), (11, 63, und), (10, 62, und), (9, 61, und), (8, 60, und), (7, 59, und), (6, 58, und), (5, 57, und), (4, 56, bo ((a1.Parts.length : Int) == 2)), (3, 55, bo ((a1.Parts.length : Int) == 2)), (2, 54, i6 (a1.Parts.length : Int)), (1, 53, .rows (a1.Parts.map TWeight.cells)), (0, 52, .ptr 1 1 6 0 5)] [] GD_A0 (by rfl) (by rfl) (by rfl) (by exact ⟨oP (fun _ => faP fa33_4 rfl) rfl, oP (fun _ => ldP rfl sz31 ag31 rfl) rfl, oP (fun _ => lnR (l := a1.Parts) sl31 rfl) rfl, oP (fun _ => eqI rfl rfl) rfl, oP (fun _ => mvV rfl) rfl, oN rfl (fun _ => rfl) (bn c9) rfl, oN rfl (fun _ => rfl) (bn c9) rfl, oN rfl (fun _ => rfl) (bn c9) rfl, oN rfl (fun _ => rfl) (bn c9) rfl, oN rfl (fun _ => rfl) (bn c9) rfl, oN rfl (fun _ => rfl) (bn c9) rfl, oN rfl (fun _ => rfl) (bn c9) rfl, oN rfl (fun _ => rfl) (bn c9) rfl, oN rfl (fun _ => rfl) (bn c9) rfl, oP (fun _ => pkFV rfl (bn c9) rfl) rfl, oP (fun _ => mvV rfl) rfl, oN rfl (fun _ => rfl) rfl rfl, oN rfl (fun _ => rfl) rfl rfl, oN rfl (fun _ => rfl) rfl rfl, oN rfl (fun _ => rfl) rfl rfl, oN rfl (fun _ => rfl) rfl rfl, oN rfl (fun _ => rfl) rfl rfl, oN rfl (fun _ => rfl) rfl rfl, oN rfl (fun _ => rfl) rfl rfl, oN rfl (fun _ => rfl) rfl rfl, oP (fun _ => pkFV rfl rfl rfl) rfl, oP (fun _ => asV rfl) rfl, trivial⟩) _ (by exact ⟨cB rfl (mAndF (bn c9)), trivial⟩) (by rfl)
              replace h := h.symm
              subst h
              refine .kf [(4, bo (((a1.Parts.length : Int) == 2) && (t13_13 && t13_24)))] rfl rfl ?_
              exact .ret rfl
            · rw [if_neg c8] at h
              refine .condF rfl (bn c8) <| .skip <| .inBlock <| .seq <| .reg0 rfl (.op 0 rfl (asV rfl) <| .nil0) ?_
              replace h := h.symm
              subst h
              refine .kf [(4, bo true)] rfl rfl ?_
              exact .ret rfl
    · rw [if_neg c3] at h
      refine .condT rfl (bnotT (nb c3)) <| .seq <| .reg0 rfl (.op 0 rfl (asV rfl) <| .nil0) ?_
      replace h := h.symm
      subst h
      refine .kf [(4, bo false)] rfl rfl ?_
      exact .ret rfl
def weight_is.fN : Nat → TSpace → TWeight → Bool → Prop
  | 0 => fun _ _ _ => False
  | n + 1 => weight_is.step (weight_is.fN n)
theorem weight_is.ND : ∀ (n : Nat) {a0 : TSpace} {a1 : TWeight} {r : Bool} (h : weight_is.fN n a0 a1 r), D Tryz.prog X (.callH 72 [.agg (TSpace.lit a0), .agg (TWeight.lit a1)] [] (.val (.bool r)) [])
  | 0, _, _, _, h => h.elim
  | n + 1, _, _, _, h => weight_is.stepD (fun _ _ _ h => weight_is.ND n h) h
def weight_is.f (a0 : TSpace) (a1 : TWeight) (r : Bool) : Prop := ∃ n, weight_is.fN n a0 a1 r
theorem weight_is.D {a0 a1 r} (h : weight_is.f a0 a1 r) : D Tryz.prog X (.callH 72 [.agg (TSpace.lit a0), .agg (TWeight.lit a1)] [] (.val (.bool r)) []) := by obtain ⟨n, h⟩ := h; exact weight_is.ND n h
def weight_checked_1.f (a0 : TWeight) (f0 : TSpace) (r : Bool) : Prop :=
  ∃ t2_2 : Bool, (weight_is.f f0 a0 t2_2) ∧ r = (!t2_2)
theorem weight_checked_1.D {a0 f0 r} (h : weight_checked_1.f a0 f0 r) : D Tryz.prog X (.callH 71 [.agg (TWeight.lit a0), .cptr (TSpace.lit f0) 0] [] (.val (.bool r)) []) := by
  unfold weight_checked_1.f at h
  refine .enter 8 0 fn71 rfl rfl rfl <| .seq <| .room 0 <| .reg0 rfl (.op 0 rfl (bxP (s := 6) (cs := (TWeight.lit a0)) rfl ⟨rfl, by decide, rfl⟩ rfl) <| .op 0 rfl (asV rfl) <| .nil0) <| .seq ?_
  obtain ⟨t2_2, g2_2, h⟩ := h
  refine .reg0 rfl (.o (ldCG rfl sz25 ag25 rfl) <| .o (ldG rfl sz33 ag33 rfl) <| .c rfl go72 rfl rfl rfl (weight_is.D g2_2) <| .o (notB rfl) <| .a rfl <| .nil0) ?_
  replace h := h.symm
  subst h
  refine .kf [(3, bo (!t2_2))] rfl rfl ?_
  exact .ret rfl
def weight_checked.f (a0 : TSpace) (a1 : List TWeight) (r : Int) : Prop :=
  ∃ t2_1 : Int, (weight_Space.f a0 t2_1) ∧ if t2_1 = 0 then (∃ t4_2 : Bool, (slices_ContainsFunc_Weight.f a1 (fun x0_ y_ => weight_checked_1.f x0_ a0 y_) t4_2) ∧ if t4_2 = true then (r = 51) else (r = 0)) else (r = t2_1)
theorem weight_checked.D {a0 a1 r} (h : weight_checked.f a0 a1 r) : D Tryz.prog X (.callH 43 [.agg (TSpace.lit a0), .rows (a1.map TWeight.cells)] [] (.val (.int .i64 r)) []) := by
  unfold weight_checked.f at h
  refine .enter 14 0 fn43 rfl rfl rfl <| .seq <| .room 0 <| .reg0 rfl (.op 0 rfl (bxP (s := 3) (cs := (TSpace.lit a0)) rfl ⟨rfl, by decide, rfl⟩ rfl) <| .op 0 rfl (asV rfl) <| .nil0) <| .seq <| .seq ?_
  obtain ⟨t2_1, g2_1, h⟩ := h
  refine .reg0 rfl (.o (ldG rfl sz25 ag25 rfl) <| .c rfl go29 rfl rfl rfl (weight_Space.D g2_1) <| .a rfl <| .nil0) <| .seq <| .reg0 rfl (.op 0 rfl (mvV rfl) <| .op 0 rfl (neI rfl rfl) <| .nil0) ?_
  by_cases c1 : t2_1 = 0
  · rw [if_pos c1] at h
    refine .condF rfl (nf c1) <| .skip <| .seq <| .seq ?_
    obtain ⟨t4_2, g4_2, h⟩ := h
    refine .reg0 rfl (.o (mvR rfl) <| .o (mkF rfl) <| .callI rfl (callee_of rfl go70 rfl) (.lendC (args' := [.rows (a1.map TWeight.cells), .clo 71 [.cptr (TSpace.lit a0) 0]])  [0] false (.cons (.free rfl rfl) <| .cons (cClo (.cons (cFixP rfl rfl (.cons (.free rfl rfl) <| .cons (.free rfl rfl) <| .cons (.free rfl rfl) <| .nil)) <| .nil)) <| .nil) (by decide) rfl rfl rfl rfl (slices_ContainsFunc_Weight.D (k1_ := [.cptr (TSpace.lit a0) 0]) go71 rfl rfl (fun x0_ y_ h_ => weight_checked_1.D h_) g4_2)) <| .nil0) ?_
    by_cases c2 : t4_2 = true
    · rw [if_pos c2] at h
      refine .condT rfl c2 <| .seq <| .reg0 rfl (.op 0 rfl (asV rfl) <| .nil0) ?_
      replace h := h.symm
      subst h
      refine .kf [(4, i6 51)] rfl rfl ?_
      exact .ret rfl
    · rw [if_neg c2] at h
      refine .condF rfl (nb c2) <| .skip <| .seq <| .reg0 rfl (.op 0 rfl (asV rfl) <| .nil0) ?_
      replace h := h.symm
      subst h
      refine .kf [(4, i6 0)] rfl rfl ?_
      exact .ret rfl
  · rw [if_neg c1] at h
    refine .condT rfl (nt c1) <| .seq <| .reg0 rfl (.op 0 rfl (mvV rfl) <| .op 0 rfl (asV rfl) <| .nil0) ?_
    replace h := h.symm
    subst h
    refine .kf [(4, i6 t2_1)] rfl rfl ?_
    exact .ret rfl
def weight_zero.step (self41 : TSpace → TWeight → Prop) (a0 : TSpace) (r : TWeight) : Prop :=
  if a0.Tag = 5 then (((InR 0 a0.Parts.length)) ∧ ∃ t3_4 : TWeight, (self41 (rdl a0.Parts 0) t3_4) ∧ ((InR 1 a0.Parts.length)) ∧ ∃ t3_9 : TWeight, (self41 (rdl a0.Parts 1) t3_9) ∧ r = (TWeight.mk false 0 (TFacts.mk 0 []) [] [t3_4, t3_9])) else (r = (TWeight.mk true 0 (TFacts.mk 0 []) [] []))
theorem weight_zero.stepD {self41 : TSpace → TWeight → Prop} {a0 : TSpace} (hs41 : ∀ z0_ r_, self41 z0_ r_ → D Tryz.prog X (.callH 41 [.agg (TSpace.lit z0_)] [] (.agg (TWeight.lit r_)) [])) {r : TWeight} (h : weight_zero.step self41 a0 r) : D Tryz.prog X (.callH 41 [.agg (TSpace.lit a0)] [] (.agg (TWeight.lit r)) []) := by
  unfold weight_zero.step at h
  refine .enter 19 0 fn41 rfl rfl rfl <| .seq <| .room 0 <| .room 0 <| .reg0 rfl (.op 0 rfl (bxP (s := 3) (cs := (TSpace.lit a0)) rfl ⟨rfl, by decide, rfl⟩ rfl) <| .op 1 rfl (alP (s := 6) ze33 ⟨rfl, by decide, rfl⟩ rfl) <| .nil0) <| .seq <| .seq <| .reg0 rfl (.op 0 rfl (faP fa25_0 rfl) <| .op 0 rfl (ldP rfl sz22 ag22 rfl) <| .op 0 rfl (neI rfl rfl) <| .nil0) ?_
  by_cases c1 : a0.Tag = 5
  · rw [if_pos c1] at h
    refine .condF rfl (nf c1) <| .skip <| .seq ?_
    obtain ⟨g3_2, h⟩ := h
    obtain ⟨t3_4, g3_4, h⟩ := h
    obtain ⟨g3_7, h⟩ := h
    obtain ⟨t3_9, g3_9, h⟩ := h
    refine .room 0 ?_
    refine .reg1 (e1 := listEnv [(2, .ptr 1 1 6 0 0)]) (H1 := [⟨3, [(TSpace.lit a0)], 0, none⟩, ⟨6, [[bo false, i6 0, u6 0, nul, nul, .own 2 ([t3_4, t3_9].length)]], 0, none⟩, ⟨6, [t3_4, t3_9].map TWeight.cells, 0, none⟩]) rfl ?_ ?_
    · exact .drawM [(11, 18, .agg [bo false, i6 0, u6 0, nul, nul, .own 2 ([t3_4, t3_9].length)]), (10, 17, .own 2 ([t3_4, t3_9].length)), (9, 16, .agg (TWeight.lit t3_9)), (8, 15, .agg (TSpace.lit (rdl a0.Parts 1))), (7, 14, .cptr (TSpace.lit (rdl a0.Parts 1)) 0), (6, 13, .rows (a0.Parts.map TSpace.cells)), (5, 12, .ptr 0 1 3 0 2), (4, 11, .agg (TWeight.lit t3_4)), (3, 10, .agg (TSpace.lit (rdl a0.Parts 0))), (2, 9, .cptr (TSpace.lit (rdl a0.Parts 0)) 0), (1, 8, .rows (a0.Parts.map TSpace.cells)), (0, 7, .ptr 0 1 3 0 2)] [(12, 1, ⟨6, [[bo false, i6 0, u6 0, nul, nul, .own 2 ([t3_4, t3_9].length)]], 0, none⟩), (10, 2, ⟨6, [t3_4, t3_9].map TWeight.cells, 0, none⟩)] [[], [0], [1, 0], [2, 1, 0], [3, 2, 1, 0], [], [5], [6, 5], [7, 6, 5], [8, 7, 6, 5, 4, 3, 2, 1, 0], [4, 3, 2, 1, 0, 9, 8, 7, 6, 5], [10, 4, 3, 2, 1, 0, 9, 8, 7, 6, 5], [11, 10, 4, 3, 2, 1, 0, 9, 8, 7, 6, 5]] (by rfl) (by rfl) (by rfl) (by exact ⟨oP (fun _ => faP fa25_2 rfl) rfl, oP (fun _ => ldP rfl sz23 ag23 rfl) rfl, oP (fun _ => ixR (l := a0.Parts) (lit := TSpace.lit) sl23 rfl rfl TSpace.cells_lit g3_2.1 g3_2.2) rfl, oP (fun _ => ldCG rfl sz25 ag25 rfl) rfl, fun S hS hD hn => .oneI hS hD hn rfl rfl (callee_of rfl go41 rfl) (.pure rfl rfl (hs41 _ _ g3_4)) rfl rfl rfl, oP (fun _ => faP fa25_2 rfl) rfl, oP (fun _ => ldP rfl sz23 ag23 rfl) rfl, oP (fun _ => ixR (l := a0.Parts) (lit := TSpace.lit) sl23 rfl rfl TSpace.cells_lit g3_7.1 g3_7.2) rfl, oP (fun _ => ldCG rfl sz25 ag25 rfl) rfl, fun S hS hD hn => .oneI hS hD hn rfl rfl (callee_of rfl go41 rfl) (.pure rfl rfl (hs41 _ _ g3_9)) rfl rfl rfl, oW 2 (fun _ => bldT (s := 6) (cs := [bo t3_4.Zero, i6 t3_4.Cost, u6 t3_4.Facts.Gen, .rows (t3_4.Facts.Rows.map (cInt .u64)), .rows (t3_4.Cells.map TCell.cells), .rows (t3_4.Parts.map TWeight.cells), bo t3_9.Zero, i6 t3_9.Cost, u6 t3_9.Facts.Gen, .rows (t3_9.Facts.Rows.map (cInt .u64)), .rows (t3_9.Cells.map TCell.cells), .rows (t3_9.Parts.map TWeight.cells)]) (cf := TWeight.cells) [t3_4, t3_9] un31 sz33 ze33 ⟨by decide, rfl, by decide⟩ rfl rfl rfl (by simp only [List.map, TWeight.cells_lit]; rfl) rfl) rfl fun _ => rfl, oP (fun _ => bldS (cs := [bo false, i6 0, u6 0, nul, nul, .own 2 ([t3_4, t3_9].length)]) ze33 pl33 rfl rfl) rfl, fun S hS hD hn => .one0 0 rfl rfl (stB (cs0 := GD_c1) (cs := [bo false, i6 0, u6 0, nul, nul, .own 2 ([t3_4, t3_9].length)]) (cs1 := [bo false, i6 0, u6 0, nul, nul, .own 2 ([t3_4, t3_9].length)]) rfl rfl sz33 rfl ⟨Nat.le_of_ble_eq_true rfl, rfl⟩ rfl) (drawE_other _ _ _ _ rfl) rfl, trivial⟩) _ (by exact ⟨.ptr rfl, trivial⟩) (by rfl)
    replace h := h.symm
    subst h
    refine .k [(2, .cptr [bo false, i6 0, u6 0, .rows (([] : List Int).map (cInt .u64)), .rows (([] : List TCell).map TCell.cells), .rows ([t3_4, t3_9].map TWeight.cells)] 0)] ⟨cFixP rfl rfl (.cons (.free rfl rfl) <| .cons (.free rfl rfl) <| .cons (.free rfl rfl) <| .cons (.nil) <| .cons (.nil) <| .cons (cFixO (l := [t3_4, t3_9]) sl31 rfl rfl rfl rfl) <| .nil), trivial⟩ ?_
    exact .ret rfl
  · rw [if_neg c1] at h
    refine .condT rfl (nt c1) <| .seq <| .reg0 rfl (.op 0 rfl (bldS (cs := GD_c2) ze33 pl33 rfl rfl) <| .op 0 rfl (stB (cs0 := GD_c1) (cs := GD_c2) (cs1 := GD_c2) rfl rfl sz33 rfl ⟨Nat.le_of_ble_eq_true rfl, rfl⟩ rfl) <| .nil0) ?_
    replace h := h.symm
    subst h
    refine .k [(2, .cptr [bo true, i6 0, u6 0, .rows (([] : List Int).map (cInt .u64)), .rows (([] : List TCell).map TCell.cells), .rows (([] : List TWeight).map TWeight.cells)] 0)] ⟨cFixP rfl rfl (.cons (.free rfl rfl) <| .cons (.free rfl rfl) <| .cons (.free rfl rfl) <| .cons (.nil) <| .cons (.nil) <| .cons (.nil) <| .nil), trivial⟩ ?_
    exact .ret rfl
def weight_zero.fN : Nat → TSpace → TWeight → Prop
  | 0 => fun _ _ => False
  | n + 1 => weight_zero.step (weight_zero.fN n)
theorem weight_zero.ND : ∀ (n : Nat) {a0 : TSpace} {r : TWeight} (h : weight_zero.fN n a0 r), D Tryz.prog X (.callH 41 [.agg (TSpace.lit a0)] [] (.agg (TWeight.lit r)) [])
  | 0, _, _, h => h.elim
  | n + 1, _, _, h => weight_zero.stepD (fun _ _ h => weight_zero.ND n h) h
def weight_zero.f (a0 : TSpace) (r : TWeight) : Prop := ∃ n, weight_zero.fN n a0 r
theorem weight_zero.D {a0 r} (h : weight_zero.f a0 r) : D Tryz.prog X (.callH 41 [.agg (TSpace.lit a0)] [] (.agg (TWeight.lit r)) []) := by obtain ⟨n, h⟩ := h; exact weight_zero.ND n h
def cost_Least.j1 (x4 : Int) : Int → (Rnd ((Int × Int)) Int (Int × Int)) → Prop := fun x9 z1 => z1 = .next (x9, (IntKind.i64.wrap (x4 + 1)))
def cost_Least.b1 (a1 : List Int) : (Int × Int) → Rnd ((Int × Int)) Int (Int × Int) → Prop := fun (x3, x4) z1 => if x4 < (a1.length : Int) then (((InR x4 a1.length)) ∧ if ((x3 == (-1)) || ((!((rdl a1 x4) == (-1))) && (decide ((rdl a1 x4) < x3)))) = true then (cost_Least.j1 x4 (rdl a1 x4) z1) else (cost_Least.j1 x4 x3 z1)) else (z1 = .exit x3)
def cost_Least.f (a0 : Int) (a1 : List Int) (r : Int × Int) : Prop :=
  ∃ t2_2 : Int, (cost_checks.f a0 a1 t2_2) ∧ if t2_2 = 0 then (∃ o1 : Fin Int (Int × Int), Loop (cost_Least.b1 a1) ((-1), 0) o1 ∧ o1.on (fun x7 => r = (x7, 0)) (fun r_ => r = r_)) else (r = (0, t2_2))
theorem cost_Least.D {a0 a1 r} (h : cost_Least.f a0 a1 r) : D Tryz.prog X (.callH 73 [.val (.int .i64 a0), .rows (a1.map (cInt .i64))] [] (.tuple [.val (.int .i64 r.1), .val (.int .i64 r.2)]) []) := by
  unfold cost_Least.f at h
  refine .enter 36 0 fn73 rfl rfl rfl <| .seq <| .reg0 rfl (.op 0 rfl (asV rfl) <| .op 0 rfl (asV rfl) <| .nil0) <| .seq <| .seq ?_
  obtain ⟨t2_2, g2_2, h⟩ := h
  refine .reg0 rfl (.m rfl <| .o (mvR rfl) <| .c rfl go88 rfl rfl rfl (cost_checks.D g2_2) <| .a rfl <| .nil0) <| .seq <| .reg0 rfl (.op 0 rfl (mvV rfl) <| .op 0 rfl (neI rfl rfl) <| .nil0) ?_
  by_cases c1 : t2_2 = 0
  · rw [if_pos c1] at h
    refine .condF rfl (nf c1) <| .skip <| .seq <| .reg0 rfl (.op 0 rfl (asV rfl) <| .nil0) <| .seq <| .seq <| .reg0 rfl (.op 0 rfl (mvR rfl) <| .op 0 rfl (lnR (l := a1) sl152 rfl) <| .op 0 rfl (mvV rfl) <| .nil0) <| .block <| .keepL [] [(7, i6 (-1)), (16, .rows (a1.map (cInt .i64))), (17, i6 (a1.length : Int)), (18, i6 0)] [] (by decide) (by decide) ⟨.free rfl rfl, .free rfl rfl, .free rfl rfl, .free rfl rfl, trivial⟩ trivial ?_
    obtain ⟨o1, hL1, h⟩ := h
    refine .loopB (cost_Least.b1 a1) (fun (x3, x4) => listEnv [(7, i6 x3), (16, .rows (a1.map (cInt .i64))), (17, i6 (a1.length : Int)), (18, i6 x4)]) (fun (x3, x4) => []) (fun x7 => listEnv [(7, i6 x7)]) (fun x7 => []) hL1 (fun r_ => r = r_) ?_ ?_ ?_
    · rintro x7 rfl
      try dsimp only [Fin.on] at h
      refine .seq <| .reg0 rfl (.op 0 rfl (mvV rfl) <| .op 0 rfl (asV rfl) <| .op 0 rfl (asV rfl) <| .nil0) ?_
      replace h := h.symm
      subst h
      refine .kf [(4, i6 x7), (5, i6 0)] rfl rfl ?_
      exact .ret rfl
    · rintro r_ rfl
      exact h
    · rintro ⟨x3, x4⟩ z1 h hn1 hx1 hr1
      dsimp only [cost_Least.b1] at h
      refine .seq <| .reg0 rfl (.op 0 rfl (ltI rfl rfl) <| .nil0) <| .seq ?_
      by_cases c20 : x4 < (a1.length : Int)
      · rw [if_pos c20] at h
        refine .condT rfl (dt c20) <| .skip <| .seq <| .block <| .seq ?_
        obtain ⟨g31_0, h⟩ := h
        refine .reg0 rfl (.o (ixR (l := a1) (lit := (cInt .i64)) sl152 rfl rfl (fun _ => rfl) g31_0.1 g31_0.2) <| .o (ldC rfl sz3 ag3 rfl) <| .a rfl <| .nil0) <| .seq ?_
        refine .reg0 (e1 := listEnv [(7, i6 x3), (9, i6 (rdl a1 x4)), (16, .rows (a1.map (cInt .i64))), (17, i6 (a1.length : Int)), (18, i6 x4), (32, bo ((x3 == (-1)) || ((!((rdl a1 x4) == (-1))) && (decide ((rdl a1 x4) < x3)))))]) (H1 := []) rfl ?_ ?_
        · refine .m rfl <| .o (eqI rfl rfl) <| .m rfl <| ?_
          by_cases c25 : x3 = (-1)
          · exact (.n rfl (bt c25) <| .n rfl (bt c25) <| .n rfl (bt c25) <| .u rfl <| .u rfl <| .u rfl <| .n rfl (bt c25) <| .o (pkTV rfl (bt c25) rfl) <| .nilL _ ⟨.free rfl rfl, .free rfl rfl, .free rfl rfl, .free rfl rfl, .free rfl rfl, cB rfl (mOrT (bt c25)), trivial⟩)
          · refine .g rfl (bn c25) (mvV rfl) <| .g rfl (bn c25) (neI rfl rfl) <| .g rfl (bn c25) (mvV rfl) <| ?_
            by_cases c26 : (rdl a1 x4) = (-1)
            · exact (.n rfl (nf c26) <| .n rfl (nf c26) <| .n rfl (nf c26) <| .g rfl (bn c25) (pkFV rfl (nf c26) rfl) <| .o (pkFV rfl (bn c25) rfl) <| .nilL _ ⟨.free rfl rfl, .free rfl rfl, .free rfl rfl, .free rfl rfl, .free rfl rfl, cB rfl (mOrF (bn c25) (mAndF (bnotF (bt c26)))), trivial⟩)
            · exact (.g rfl (nt c26) (mvV rfl) <| .g rfl (nt c26) (mvV rfl) <| .g rfl (nt c26) (ltI rfl rfl) <| .g rfl (bn c25) (pkTV rfl (nt c26) rfl) <| .o (pkFV rfl (bn c25) rfl) <| .nilL _ ⟨.free rfl rfl, .free rfl rfl, .free rfl rfl, .free rfl rfl, .free rfl rfl, cB rfl (mOrF (bn c25) (mAndT (bnotT (bn c26)) rfl)), trivial⟩)
        refine .consJ (fun s_ => cost_Least.j1 x4 s_ z1) (fun x9 => listEnv [(7, i6 x9), (16, .rows (a1.map (cInt .i64))), (17, i6 (a1.length : Int)), (18, i6 x4)]) (fun x9 => []) ?_ fun hJ1 => ?_
        · rintro x9 h
          unfold cost_Least.j1 at h
          try dsimp only at h
          refine .inBlock <| .reg0 rfl (.op 0 rfl (addI rfl rfl) <| .op 0 rfl (mvV rfl) <| .nil0) <| .kf [(7, i6 x9), (16, .rows (a1.map (cInt .i64))), (17, i6 (a1.length : Int)), (18, i6 (IntKind.i64.wrap (x4 + 1)))] rfl rfl ?_
          exact hn1 _ h
        · by_cases c28 : ((x3 == (-1)) || ((!((rdl a1 x4) == (-1))) && (decide ((rdl a1 x4) < x3)))) = true
          · rw [if_pos c28] at h
            refine .condT rfl c28 <| .reg0 rfl (.m rfl <| .a rfl <| .nil0) <| .kf [(7, i6 (rdl a1 x4)), (16, .rows (a1.map (cInt .i64))), (17, i6 (a1.length : Int)), (18, i6 x4)] rfl rfl ?_
            exact hJ1 _ h
          · rw [if_neg c28] at h
            refine .condF rfl (nb c28) <| .skip <| .keepL [] [(7, i6 x3), (16, .rows (a1.map (cInt .i64))), (17, i6 (a1.length : Int)), (18, i6 x4)] [] (by decide) (by decide) ⟨.free rfl rfl, .free rfl rfl, .free rfl rfl, .free rfl rfl, trivial⟩ trivial ?_
            exact hJ1 _ h
      · rw [if_neg c20] at h
        refine .condF rfl (df c20) <| .exit rfl <| .keepL [] [(7, i6 x3)] [] (by decide) (by decide) ⟨.free rfl rfl, trivial⟩ trivial ?_
        exact hx1 _ h
  · rw [if_neg c1] at h
    refine .condT rfl (nt c1) <| .seq <| .reg0 rfl (.op 0 rfl (mvV rfl) <| .op 0 rfl (asV rfl) <| .op 0 rfl (asV rfl) <| .nil0) ?_
    replace h := h.symm
    subst h
    refine .kf [(4, i6 0), (5, i6 t2_2)] rfl rfl ?_
    exact .ret rfl
def facts_checked.b1 (a0 : Int) (a1 : List TFacts) : Int → Rnd Int Unit Int → Prop := fun x1 z1 => if x1 < (a1.length : Int) then (((InR x1 a1.length)) ∧ ∃ t17_2 : Int, (facts_Check.f a0 (rdl a1 x1) t17_2) ∧ if t17_2 = 0 then (z1 = .next (IntKind.i64.wrap (x1 + 1))) else (z1 = .ret t17_2)) else (z1 = .exit ())
def facts_checked.f (a0 : Int) (a1 : List TFacts) (r : Int) : Prop :=
  ∃ o1 : Fin Unit Int, Loop (facts_checked.b1 a0 a1) 0 o1 ∧ o1.on (fun _ => r = 0) (fun r_ => r = r_)
theorem facts_checked.D {a0 a1 r} (h : facts_checked.f a0 a1 r) : D Tryz.prog X (.callH 122 [.val (.int .i64 a0), .rows (a1.map TFacts.cells)] [] (.val (.int .i64 r)) []) := by
  unfold facts_checked.f at h
  refine .enter 21 0 fn122 rfl rfl rfl <| .seq <| .reg0 rfl (.op 0 rfl (asV rfl) <| .nil0) <| .seq <| .seq <| .reg0 rfl (.op 0 rfl (mvR rfl) <| .op 0 rfl (lnR (l := a1) sl178 rfl) <| .op 0 rfl (mvV rfl) <| .nil0) <| .block <| .keepL [] [(0, i6 a0), (8, .rows (a1.map TFacts.cells)), (9, i6 (a1.length : Int)), (10, i6 0)] [] (by decide) (by decide) ⟨.free rfl rfl, .free rfl rfl, .free rfl rfl, .free rfl rfl, trivial⟩ trivial ?_
  obtain ⟨o1, hL1, h⟩ := h
  refine .loopB (facts_checked.b1 a0 a1) (fun x1 => listEnv [(0, i6 a0), (8, .rows (a1.map TFacts.cells)), (9, i6 (a1.length : Int)), (10, i6 x1)]) (fun x1 => []) (fun _ => listEnv []) (fun _ => []) hL1 (fun r_ => r = r_) ?_ ?_ ?_
  · rintro ⟨⟩ rfl
    try dsimp only [Fin.on] at h
    refine .seq <| .reg0 rfl (.op 0 rfl (asV rfl) <| .nil0) ?_
    replace h := h.symm
    subst h
    refine .kf [(4, i6 0)] rfl rfl ?_
    exact .ret rfl
  · rintro r_ rfl
    exact h
  · rintro x1 z1 h hn1 hx1 hr1
    dsimp only [facts_checked.b1] at h
    refine .seq <| .reg0 rfl (.op 0 rfl (ltI rfl rfl) <| .nil0) <| .seq ?_
    by_cases c5 : x1 < (a1.length : Int)
    · rw [if_pos c5] at h
      refine .condT rfl (dt c5) <| .skip <| .seq <| .block <| .seq ?_
      obtain ⟨g16_0, h⟩ := h
      refine .room 0 <| .reg0 rfl (.op 0 rfl (ixR (l := a1) (lit := TFacts.lit) sl178 rfl rfl (fun _ => rfl) g16_0.1 g16_0.2) <| .op 0 rfl (ldCG rfl sz29 ag29 rfl) <| .op 0 rfl (alP (s := 2) ze29 ⟨rfl, by decide, rfl⟩ rfl) <| .op 0 rfl (stB (cs0 := [u6 0, nul]) (cs := (TFacts.lit (rdl a1 x1))) (cs1 := (TFacts.lit (rdl a1 x1))) rfl rfl sz29 rfl ⟨Nat.le_of_ble_eq_true rfl, rfl⟩ rfl) <| .nil0) <| .seq ?_
      obtain ⟨t17_2, g17_2, h⟩ := h
      refine .reg0 rfl (.m rfl <| .o (ldG rfl sz29 ag29 rfl) <| .c rfl go120 rfl rfl rfl (facts_Check.D g17_2) <| .a rfl <| .nil0) <| .seq <| .reg0 rfl (.op 0 rfl (mvV rfl) <| .op 0 rfl (neI rfl rfl) <| .nil0) ?_
      by_cases c6 : t17_2 = 0
      · rw [if_pos c6] at h
        refine .condF rfl (nf c6) <| .skip <| .inBlock <| .reg0 rfl (.op 0 rfl (addI rfl rfl) <| .op 0 rfl (mvV rfl) <| .nil0) <| .kf [(0, i6 a0), (8, .rows (a1.map TFacts.cells)), (9, i6 (a1.length : Int)), (10, i6 (IntKind.i64.wrap (x1 + 1)))] rfl rfl ?_
        exact hn1 _ h
      · rw [if_neg c6] at h
        refine .condT rfl (nt c6) <| .seq <| .reg0 rfl (.op 0 rfl (mvV rfl) <| .op 0 rfl (asV rfl) <| .nil0) ?_
        have q3 := hr1 _ h
        replace q3 := q3.symm
        subst q3
        refine .kf [(4, i6 t17_2)] rfl rfl ?_
        exact .ret rfl
    · rw [if_neg c5] at h
      refine .condF rfl (df c5) <| .exit rfl <| .keepL [] [] [] (by decide) (by decide) trivial trivial ?_
      exact hx1 _ h
def facts_Combine.b1 (a0 : Int) (a1 : TFacts) (a2 : TFacts) : ((List Int) × Int) → Rnd (((List Int) × Int)) ((List Int)) (TFacts × Int) → Prop := fun (x1, x2) z1 => if x2 < ((List.replicate (Int.toNat a0) (0 : Int)).length : Int) then (((InR x2 a1.Rows.length)) ∧ ((InR x2 a2.Rows.length)) ∧ ((InR x2 x1.length)) ∧ z1 = .next ((setl x1 x2 (bitOp .or .u64 (rdl a1.Rows x2) (rdl a2.Rows x2))), (IntKind.i64.wrap (x2 + 1)))) else (z1 = .exit x1)
def facts_Combine.f (a0 : Int) (a1 : TFacts) (a2 : TFacts) (r : TFacts × Int) : Prop :=
  ∃ t2_4 : Int, (facts_checked.f a0 [a1, a2] t2_4) ∧ if t2_4 = 0 then ((((0 : Int) ≤ a0 ∧ Fits a0 8)) ∧ ∃ o1 : Fin ((List Int)) (TFacts × Int), Loop (facts_Combine.b1 a0 a1 a2) ((List.replicate (Int.toNat a0) (0 : Int)), 0) o1 ∧ o1.on (fun x3 => ∃ t18_1 : TFacts, (facts_canon.f (TFacts.mk (bitOp .or .u64 a1.Gen a2.Gen) x3) t18_1) ∧ r = (t18_1, 0)) (fun r_ => r = r_)) else (r = ((TFacts.mk 0 []), t2_4))
theorem facts_Combine.D {a0 a1 a2 r} (h : facts_Combine.f a0 a1 a2 r) : D Tryz.prog X (.callH 74 [.val (.int .i64 a0), .agg (TFacts.lit a1), .agg (TFacts.lit a2)] [] (.tuple [.agg (TFacts.lit r.1), .val (.int .i64 r.2)]) []) := by
  unfold facts_Combine.f at h
  refine .enter 52 0 fn74 rfl rfl rfl <| .seq <| .room 0 <| .room 0 <| .room 0 <| .reg0 rfl (.op 0 rfl (bxP (s := 2) (cs := (TFacts.lit a1)) rfl ⟨rfl, by decide, rfl⟩ rfl) <| .op 1 rfl (bxP (s := 2) (cs := (TFacts.lit a2)) rfl ⟨rfl, by decide, rfl⟩ rfl) <| .op 2 rfl (alP (s := 2) ze29 ⟨rfl, by decide, rfl⟩ rfl) <| .op 0 rfl (asV rfl) <| .nil0) <| .seq <| .seq ?_
  obtain ⟨t2_4, g2_4, h⟩ := h
  refine .room 0 <| .reg0 rfl (.op 0 rfl (mvV rfl) <| .op 0 rfl (ldG rfl sz29 ag29 rfl) <| .op 0 rfl (ldG rfl sz29 ag29 rfl) <| .op 3 rfl (bldL (s := 2) (cs := [u6 a1.Gen, .rows (a1.Rows.map (cInt .u64)), u6 a2.Gen, .rows (a2.Rows.map (cInt .u64))]) un178 sz29 ze29 ⟨by decide, rfl, by decide⟩ rfl rfl rfl rfl) <| .callI rfl (callee_of rfl go122 rfl) (.lendC (args' := [i6 a0, .rows ([a1, a2].map TFacts.cells)])  [3] false (.cons (.free rfl rfl) <| .cons (cFixO (l := [a1, a2]) sl178 rfl rfl rfl rfl) <| .nil) (by decide) rfl rfl rfl rfl (facts_checked.D g2_4)) <| .op 0 rfl (asV rfl) <| .nil0) ?_
  refine .seq <| .reg0 rfl (.op 0 rfl (mvV rfl) <| .op 0 rfl (neI rfl rfl) <| .nil0) ?_
  by_cases c1 : t2_4 = 0
  · rw [if_pos c1] at h
    refine .condF rfl (nf c1) <| .skip <| .seq ?_
    obtain ⟨g4_6, h⟩ := h
    refine .room 0 <| .room 0 ?_
    refine .reg1 (e1 := listEnv [(4, .ptr 0 1 2 0 0), (5, .ptr 1 1 2 0 0), (6, .ptr 2 1 2 0 0), (9, .ptr 5 1 2 0 0)]) (H1 := [⟨2, [(TFacts.lit a1)], 0, none⟩, ⟨2, [(TFacts.lit a2)], 0, none⟩, ⟨2, [[u6 0, nul]], 0, none⟩, ⟨2, [a1, a2].map TFacts.cells, 0, none⟩, ⟨1, (List.replicate (Int.toNat a0) (0 : Int)).map (cInt .u64), 0, none⟩, ⟨2, [[u6 (bitOp .or .u64 a1.Gen a2.Gen), .own 4 ((List.replicate (Int.toNat a0) (0 : Int)).length)]], 0, none⟩]) rfl ?_ ?_
    · exact .drawM [(8, 9, .ptr 5 1 2 0 0), (7, 27, .agg [u6 (bitOp .or .u64 a1.Gen a2.Gen), .own 4 ((List.replicate (Int.toNat a0) (0 : Int)).length)]), (6, 26, .own 4 ((List.replicate (Int.toNat a0) (0 : Int)).length)), (5, 25, i6 a0), (4, 24, u6 (bitOp .or .u64 a1.Gen a2.Gen)), (3, 23, u6 a2.Gen), (2, 22, .ptr 1 1 2 0 0), (1, 21, u6 a1.Gen), (0, 20, .ptr 0 1 2 0 0)] [(9, 5, ⟨2, [[u6 (bitOp .or .u64 a1.Gen a2.Gen), .own 4 ((List.replicate (Int.toNat a0) (0 : Int)).length)]], 0, none⟩), (8, 5, ⟨2, [[u6 0, nul]], 0, none⟩), (6, 4, ⟨1, (List.replicate (Int.toNat a0) (0 : Int)).map (cInt .u64), 0, none⟩)] [[], [0], [], [2], [1, 0, 3, 2], [], [5], [4, 1, 0, 3, 2, 6, 5], [], [8, 7, 4, 1, 0, 3, 2, 6, 5]] (by rfl) (by rfl) (by rfl) (by exact ⟨oP (fun _ => faP fa29_0 rfl) rfl, oP (fun _ => ldP rfl sz26 ag26 rfl) rfl, oP (fun _ => faP fa29_0 rfl) rfl, oP (fun _ => ldP rfl sz26 ag26 rfl) rfl, oP (fun _ => orI rfl rfl) rfl, oP (fun _ => mvV rfl) rfl, oW 4 (fun _ => mkS (z0 := (0 : Int)) sl27 un27 ze26 rfl rfl g4_6.1 g4_6.2 rfl) rfl fun _ => rfl, oP (fun _ => bldS (cs := [u6 (bitOp .or .u64 a1.Gen a2.Gen), .own 4 ((List.replicate (Int.toNat a0) (0 : Int)).length)]) ze29 pl29 rfl rfl) rfl, oW 5 (fun _ => alP (s := 2) ze29 ⟨rfl, by decide, rfl⟩ rfl) rfl fun _ => rfl, fun S hS hD hn => .one0 0 rfl rfl (stB (cs0 := [u6 0, nul]) (cs := [u6 (bitOp .or .u64 a1.Gen a2.Gen), .own 4 ((List.replicate (Int.toNat a0) (0 : Int)).length)]) (cs1 := [u6 (bitOp .or .u64 a1.Gen a2.Gen), .own 4 ((List.replicate (Int.toNat a0) (0 : Int)).length)]) rfl rfl sz29 rfl ⟨Nat.le_of_ble_eq_true rfl, rfl⟩ rfl) (drawE_other _ _ _ _ rfl) rfl, trivial⟩) _ (by exact ⟨.ptr rfl, .ptr rfl, .ptr rfl, .ptr rfl, trivial⟩) (by rfl)
    refine .seq <| .seq <| .reg0 rfl (.op 0 rfl (faP fa29_1 rfl) <| .op 0 rfl (ldP rfl sz27 ag27 rfl) <| .op 0 rfl (lnO (l := (List.replicate (Int.toNat a0) (0 : Int))) sl27 rfl rfl rfl) <| .op 0 rfl (mvV rfl) <| .nil0) <| .block <| .keepL [0, 1, 2, 5, 4] [(4, .ptr 0 1 2 0 0), (5, .ptr 1 1 2 0 0), (6, .ptr 2 1 2 0 0), (9, .ptr 3 1 2 0 0), (30, i6 ((List.replicate (Int.toNat a0) (0 : Int)).length : Int)), (31, i6 0)] [⟨2, [(TFacts.lit a1)], 0, none⟩, ⟨2, [(TFacts.lit a2)], 0, none⟩, ⟨2, [[u6 0, nul]], 0, none⟩, ⟨2, [[u6 (bitOp .or .u64 a1.Gen a2.Gen), .own 4 ((List.replicate (Int.toNat a0) (0 : Int)).length)]], 0, none⟩, ⟨1, (List.replicate (Int.toNat a0) (0 : Int)).map (cInt .u64), 0, none⟩] (by decide) (by decide) ⟨.ptr rfl, .ptr rfl, .ptr rfl, .ptr rfl, .free rfl rfl, .free rfl rfl, trivial⟩ ⟨⟨_, rfl, bcBox (all2_free rfl)⟩, ⟨_, rfl, bcBox (all2_free rfl)⟩, ⟨_, rfl, bcBox (all2_free rfl)⟩, ⟨_, rfl, bcBox (.cons (.free rfl rfl) <| .cons (.own rfl) <| .nil)⟩, ⟨_, rfl, bcRow (l := (List.replicate (Int.toNat a0) (0 : Int))) sl27 (Nat.le_refl _) rfl⟩, trivial⟩ ?_
    obtain ⟨o1, hL1, h⟩ := h
    refine .loopB (facts_Combine.b1 a0 a1 a2) (fun (x1, x2) => listEnv [(4, .ptr 0 1 2 0 0), (5, .ptr 1 1 2 0 0), (6, .ptr 2 1 2 0 0), (9, .ptr 3 1 2 0 0), (30, i6 ((List.replicate (Int.toNat a0) (0 : Int)).length : Int)), (31, i6 x2)]) (fun (x1, x2) => [⟨2, [(TFacts.lit a1)], 0, none⟩, ⟨2, [(TFacts.lit a2)], 0, none⟩, ⟨2, [[u6 0, nul]], 0, none⟩, ⟨2, [[u6 (bitOp .or .u64 a1.Gen a2.Gen), .own 4 x1.length]], 0, none⟩, ⟨1, x1.map (cInt .u64), 0, none⟩]) (fun x3 => listEnv [(6, .ptr 0 1 2 0 0), (9, .ptr 1 1 2 0 0)]) (fun x3 => [⟨2, [[u6 0, nul]], 0, none⟩, ⟨2, [[u6 (bitOp .or .u64 a1.Gen a2.Gen), .own 2 x3.length]], 0, none⟩, ⟨1, x3.map (cInt .u64), 0, none⟩]) hL1 (fun r_ => r = r_) ?_ ?_ ?_
    · rintro x3 rfl
      try dsimp only [Fin.on] at h
      refine .seq ?_
      obtain ⟨t18_1, g18_1, h⟩ := h
      refine .reg0 rfl (.o (ldG rfl sz29 ag29 rfl) <| .callI rfl (callee_of rfl go123 rfl) (.lendC (args' := [.agg [u6 (bitOp .or .u64 a1.Gen a2.Gen), .rows (x3.map (cInt .u64))]])  [2] true (.cons (cAgg (.cons (.free rfl rfl) <| .cons (cFixO (l := x3) sl27 rfl rfl rfl rfl) <| .nil)) <| .nil) (by decide) rfl rfl rfl rfl (facts_canon.D g18_1)) <| .o (stB (cs0 := [u6 0, nul]) (cs := (TFacts.lit t18_1)) (cs1 := (TFacts.lit t18_1)) rfl rfl sz29 rfl ⟨Nat.le_of_ble_eq_true rfl, rfl⟩ rfl) <| .a rfl <| .nil0) ?_
      replace h := h.symm
      subst h
      refine .k [(6, .cptr (TFacts.lit t18_1) 0), (7, i6 0)] ⟨cFixP rfl rfl (.cons (.free rfl rfl) <| .cons (.free rfl rfl) <| .nil), .free rfl rfl, trivial⟩ ?_
      exact .ret rfl
    · rintro r_ rfl
      exact h
    · rintro ⟨x1, x2⟩ z1 h hn1 hx1 hr1
      dsimp only [facts_Combine.b1] at h
      refine .seq <| .reg0 rfl (.op 0 rfl (ltI rfl rfl) <| .nil0) <| .seq ?_
      by_cases c4 : x2 < ((List.replicate (Int.toNat a0) (0 : Int)).length : Int)
      · rw [if_pos c4] at h
        refine .condT rfl (dt c4) <| .skip <| .seq <| .block <| .seq <| .reg0 rfl (.op 0 rfl (mvV rfl) <| .op 0 rfl (asV rfl) <| .nil0) ?_
        obtain ⟨g16_6, h⟩ := h
        obtain ⟨g16_11, h⟩ := h
        obtain ⟨g16_14, h⟩ := h
        refine .reg1 (e1 := listEnv [(4, .ptr 0 1 2 0 0), (5, .ptr 1 1 2 0 0), (6, .ptr 2 1 2 0 0), (9, .ptr 3 1 2 0 0), (30, i6 ((List.replicate (Int.toNat a0) (0 : Int)).length : Int)), (31, i6 x2)]) (H1 := [⟨2, [(TFacts.lit a1)], 0, none⟩, ⟨2, [(TFacts.lit a2)], 0, none⟩, ⟨2, [[u6 0, nul]], 0, none⟩, ⟨2, [[u6 (bitOp .or .u64 a1.Gen a2.Gen), .own 4 x1.length]], 0, none⟩, ⟨1, (setl x1 x2 (bitOp .or .u64 (rdl a1.Rows x2) (rdl a2.Rows x2))).map (cInt .u64), 0, none⟩]) rfl ?_ ?_
        · exact .drawM [(14, 48, .ptr 4 x1.length 1 (Int.toNat x2) 0), (13, 47, u6 (bitOp .or .u64 (rdl a1.Rows x2) (rdl a2.Rows x2))), (12, 46, u6 (rdl a2.Rows x2)), (11, 45, .cptr ((cInt .u64) (rdl a2.Rows x2)) 0), (10, 44, i6 x2), (9, 43, .rows (a2.Rows.map (cInt .u64))), (8, 42, .ptr 1 1 2 0 1), (7, 41, u6 (rdl a1.Rows x2)), (6, 40, .cptr ((cInt .u64) (rdl a1.Rows x2)) 0), (5, 39, i6 x2), (4, 38, .rows (a1.Rows.map (cInt .u64))), (3, 37, .ptr 0 1 2 0 1), (2, 36, i6 x2), (1, 35, .own 4 x1.length), (0, 34, .ptr 3 1 2 0 1)] [(15, 4, ⟨1, (setl x1 x2 (bitOp .or .u64 (rdl a1.Rows x2) (rdl a2.Rows x2))).map (cInt .u64), 0, none⟩)] [[], [0], [], [], [3], [], [4, 3, 5], [6, 4, 3, 5], [], [8], [], [9, 8, 10], [11, 9, 8, 10], [7, 6, 4, 3, 5, 12, 11, 9, 8, 10], [1, 0, 2, 3, 4, 5, 6, 7, 8, 9, 10, 11, 12, 13], [14, 1, 0, 2, 3, 4, 5, 6, 7, 8, 9, 10, 11, 12, 13]] (by rfl) (by rfl) (by rfl) (by exact ⟨oP (fun _ => faP fa29_1 rfl) rfl, oP (fun _ => ldP rfl sz27 ag27 rfl) rfl, oP (fun _ => mvV rfl) rfl, oP (fun _ => faP fa29_1 rfl) rfl, oP (fun _ => ldP rfl sz27 ag27 rfl) rfl, oP (fun _ => mvV rfl) rfl, oP (fun _ => ixR (l := a1.Rows) (lit := (cInt .u64)) sl27 rfl rfl (fun _ => rfl) g16_6.1 g16_6.2) rfl, oP (fun _ => ldC rfl sz26 ag26 rfl) rfl, oP (fun _ => faP fa29_1 rfl) rfl, oP (fun _ => ldP rfl sz27 ag27 rfl) rfl, oP (fun _ => mvV rfl) rfl, oP (fun _ => ixR (l := a2.Rows) (lit := (cInt .u64)) sl27 rfl rfl (fun _ => rfl) g16_11.1 g16_11.2) rfl, oP (fun _ => ldC rfl sz26 ag26 rfl) rfl, oP (fun _ => orI rfl rfl) rfl, oP (fun _ => ixO (l := x1) sl27 rfl rfl rfl rfl g16_14.1 g16_14.2) rfl, fun S hS hD hn => .one0 0 rfl rfl (stO (l := x1) (j := x2) (cs := [u6 (bitOp .or .u64 (rdl a1.Rows x2) (rdl a2.Rows x2))]) (bitOp .or .u64 (rdl a1.Rows x2) (rdl a2.Rows x2)) sl27 rfl rfl sz26 rfl rfl g16_14.1 g16_14.2 (Nat.zero_le _) ⟨Nat.le_of_ble_eq_true rfl, rfl⟩ rfl) (drawE_other _ _ _ _ rfl) rfl, trivial⟩) _ (by exact ⟨.ptr rfl, .ptr rfl, .ptr rfl, .ptr rfl, .free rfl rfl, .free rfl rfl, trivial⟩) (by rfl)
        refine .inBlock <| .reg0 rfl (.op 0 rfl (addI rfl rfl) <| .op 0 rfl (mvV rfl) <| .nil0) <| .keepL [0, 1, 2, 3, 4] [(4, .ptr 0 1 2 0 0), (5, .ptr 1 1 2 0 0), (6, .ptr 2 1 2 0 0), (9, .ptr 3 1 2 0 0), (30, i6 ((List.replicate (Int.toNat a0) (0 : Int)).length : Int)), (31, i6 (IntKind.i64.wrap (x2 + 1)))] [⟨2, [(TFacts.lit a1)], 0, none⟩, ⟨2, [(TFacts.lit a2)], 0, none⟩, ⟨2, [[u6 0, nul]], 0, none⟩, ⟨2, [[u6 (bitOp .or .u64 a1.Gen a2.Gen), .own 4 ((setl x1 x2 (bitOp .or .u64 (rdl a1.Rows x2) (rdl a2.Rows x2))).length)]], 0, none⟩, ⟨1, (setl x1 x2 (bitOp .or .u64 (rdl a1.Rows x2) (rdl a2.Rows x2))).map (cInt .u64), 0, none⟩] (by decide) (by decide) ⟨.ptr rfl, .ptr rfl, .ptr rfl, .ptr rfl, .free rfl rfl, .free rfl rfl, trivial⟩ ⟨⟨_, rfl, bcBox (all2_free rfl)⟩, ⟨_, rfl, bcBox (all2_free rfl)⟩, ⟨_, rfl, bcBox (all2_free rfl)⟩, ⟨_, rfl, bcBox (.cons (.free rfl rfl) <| .cons (cOwnE rfl (by simp only [setl, List.length_set])) <| .nil)⟩, ⟨_, rfl, bcRow (l := (setl x1 x2 (bitOp .or .u64 (rdl a1.Rows x2) (rdl a2.Rows x2)))) sl27 (Nat.le_refl _) rfl⟩, trivial⟩ ?_
        exact hn1 _ h
      · rw [if_neg c4] at h
        refine .condF rfl (df c4) <| .exit rfl <| .keepL [2, 3, 4] [(6, .ptr 0 1 2 0 0), (9, .ptr 1 1 2 0 0)] [⟨2, [[u6 0, nul]], 0, none⟩, ⟨2, [[u6 (bitOp .or .u64 a1.Gen a2.Gen), .own 2 x1.length]], 0, none⟩, ⟨1, x1.map (cInt .u64), 0, none⟩] (by decide) (by decide) ⟨.ptr rfl, .ptr rfl, trivial⟩ ⟨⟨_, rfl, bcBox (all2_free rfl)⟩, ⟨_, rfl, bcBox (.cons (.free rfl rfl) <| .cons (.own rfl) <| .nil)⟩, ⟨_, rfl, bcRow (l := x1) sl27 (Nat.le_refl _) rfl⟩, trivial⟩ ?_
        exact hx1 _ h
  · rw [if_neg c1] at h
    refine .condT rfl (nt c1) <| .seq <| .reg0 rfl (.op 0 rfl (bldS (cs := [u6 0, nul]) ze29 pl29 rfl rfl) <| .op 0 rfl (mvV rfl) <| .op 0 rfl (stB (cs0 := [u6 0, nul]) (cs := [u6 0, nul]) (cs1 := [u6 0, nul]) rfl rfl sz29 rfl ⟨Nat.le_of_ble_eq_true rfl, rfl⟩ rfl) <| .op 0 rfl (asV rfl) <| .nil0) ?_
    replace h := h.symm
    subst h
    refine .k [(6, .cptr [u6 0, .rows (([] : List Int).map (cInt .u64))] 0), (7, i6 t2_4)] ⟨cFixP rfl rfl (.cons (.free rfl rfl) <| .cons (.nil) <| .nil), .free rfl rfl, trivial⟩ ?_
    exact .ret rfl
def cells_two.f (a0 : Int) (a1 : List TCell) (a2 : List TCell) (r : Int) : Prop :=
  ∃ t2_2 : Int, (cells_Check.f a0 a1 t2_2) ∧ if t2_2 = 0 then (∃ t4_2 : Int, (cells_Check.f a0 a2 t4_2) ∧ r = t4_2) else (r = t2_2)
theorem cells_two.D {a0 a1 a2 r} (h : cells_two.f a0 a1 a2 r) : D Tryz.prog X (.callH 124 [.val (.int .i64 a0), .rows (a1.map TCell.cells), .rows (a2.map TCell.cells)] [] (.val (.int .i64 r)) []) := by
  unfold cells_two.f at h
  refine .enter 17 0 fn124 rfl rfl rfl <| .seq <| .reg0 rfl (.op 0 rfl (asV rfl) <| .nil0) <| .seq <| .seq ?_
  obtain ⟨t2_2, g2_2, h⟩ := h
  refine .reg0 rfl (.m rfl <| .o (mvR rfl) <| .c rfl go121 rfl rfl rfl (cells_Check.D g2_2) <| .a rfl <| .nil0) <| .seq <| .reg0 rfl (.op 0 rfl (mvV rfl) <| .op 0 rfl (neI rfl rfl) <| .nil0) ?_
  by_cases c1 : t2_2 = 0
  · rw [if_pos c1] at h
    refine .condF rfl (nf c1) <| .skip <| .seq ?_
    obtain ⟨t4_2, g4_2, h⟩ := h
    refine .reg0 rfl (.m rfl <| .o (mvR rfl) <| .c rfl go121 rfl rfl rfl (cells_Check.D g4_2) <| .a rfl <| .nil0) ?_
    replace h := h.symm
    subst h
    refine .kf [(6, i6 t4_2)] rfl rfl ?_
    exact .ret rfl
  · rw [if_neg c1] at h
    refine .condT rfl (nt c1) <| .seq <| .reg0 rfl (.op 0 rfl (mvV rfl) <| .op 0 rfl (asV rfl) <| .nil0) ?_
    replace h := h.symm
    subst h
    refine .kf [(6, i6 t2_2)] rfl rfl ?_
    exact .ret rfl
def cells_both.f (a0 : TCell) (a1 : TCell) (r : TCell) : Prop :=
  if a0.Kind = 0 then (if a1.Kind = 2 then (r = (TCell.mk 0 2 0)) else (r = (TCell.mk (bitOp .or .u64 a0.From a1.From) a1.Kind a1.K))) else (if ((!(a1.Kind == 0)) && ((!(a0.Kind == a1.Kind)) || (a0.K != a1.K))) = true then (if (2 : Int) = 2 then (r = (TCell.mk 0 2 0)) else (r = (TCell.mk (bitOp .or .u64 a0.From a1.From) 2 a0.K))) else (if a0.Kind = 2 then (r = (TCell.mk 0 2 0)) else (r = (TCell.mk (bitOp .or .u64 a0.From a1.From) a0.Kind a0.K))))
theorem cells_both.D {a0 a1 r} (h : cells_both.f a0 a1 r) : D Tryz.prog X (.callH 125 [.agg (TCell.lit a0), .agg (TCell.lit a1)] [] (.agg (TCell.lit r)) []) := by
  unfold cells_both.f at h
  refine .enter 48 0 fn125 rfl rfl rfl <| .seq <| .room 0 <| .room 0 <| .room 0 <| .reg0 rfl (.op 0 rfl (bxP (s := 3) (cs := (TCell.lit a0)) rfl ⟨rfl, by decide, rfl⟩ rfl) <| .op 1 rfl (bxP (s := 3) (cs := (TCell.lit a1)) rfl ⟨rfl, by decide, rfl⟩ rfl) <| .op 2 rfl (alP (s := 3) ze74 ⟨rfl, by decide, rfl⟩ rfl) <| .nil0) <| .seq <| .room 0 <| .reg0 rfl (.op 0 rfl (faP fa74_0 rfl) <| .op 0 rfl (ldP rfl sz26 ag26 rfl) <| .op 0 rfl (faP fa74_0 rfl) <| .op 0 rfl (ldP rfl sz26 ag26 rfl) <| .op 0 rfl (orI rfl rfl) <| .op 0 rfl (faP fa74_1 rfl) <| .op 0 rfl (ldP rfl sz72 ag72 rfl) <| .op 0 rfl (faP fa74_2 rfl) <| .op 0 rfl (ldP rfl sz2 ag2 rfl) <| .op 0 rfl (bldS (cs := [u6 (bitOp .or .u64 a0.From a1.From), i6 a0.Kind, i6 a0.K]) ze74 pl74 rfl rfl) <| .op 3 rfl (alP (s := 3) ze74 ⟨rfl, by decide, rfl⟩ rfl) <| .op 0 rfl (stB (cs0 := GD_c0) (cs := [u6 (bitOp .or .u64 a0.From a1.From), i6 a0.Kind, i6 a0.K]) (cs1 := [u6 (bitOp .or .u64 a0.From a1.From), i6 a0.Kind, i6 a0.K]) rfl rfl sz74 rfl ⟨Nat.le_of_ble_eq_true rfl, rfl⟩ rfl) <| .nil0) ?_
  refine .seq <| .seq <| .reg0 rfl (.op 0 rfl (faP fa74_1 rfl) <| .op 0 rfl (ldP rfl sz72 ag72 rfl) <| .op 0 rfl (eqI rfl rfl) <| .nil0) ?_
  by_cases c1 : a0.Kind = 0
  · rw [if_pos c1] at h
    refine .condT rfl (bt c1) ?_
    refine .reg1 (e1 := listEnv [(4, .ptr 2 1 3 0 0), (5, .ptr 3 1 3 0 0)]) (H1 := [⟨3, [(TCell.lit a0)], 0, none⟩, ⟨3, [(TCell.lit a1)], 0, none⟩, ⟨3, [GD_c0], 0, none⟩, ⟨3, [[u6 (bitOp .or .u64 a0.From a1.From), i6 a1.Kind, i6 a1.K]], 0, none⟩]) rfl ?_ ?_
    · exact .drawM [(6, 24, .ptr 3 1 3 0 2), (4, 23, .ptr 3 1 3 0 1), (3, 22, i6 a1.K), (2, 21, .ptr 1 1 3 0 2), (1, 20, i6 a1.Kind), (0, 19, .ptr 1 1 3 0 1)] [(7, 3, ⟨3, [[u6 (bitOp .or .u64 a0.From a1.From), i6 a1.Kind, i6 a1.K]], 0, none⟩), (5, 3, ⟨3, [[u6 (bitOp .or .u64 a0.From a1.From), i6 a1.Kind, i6 a0.K]], 0, none⟩)] [[], [0], [], [2], [0, 1], [4, 0, 1], [0, 1, 2, 3, 4, 5], [6, 0, 1, 2, 3, 4, 5]] (by rfl) (by rfl) (by rfl) (by exact ⟨oP (fun _ => faP fa74_1 rfl) rfl, oP (fun _ => ldP rfl sz72 ag72 rfl) rfl, oP (fun _ => faP fa74_2 rfl) rfl, oP (fun _ => ldP rfl sz2 ag2 rfl) rfl, oP (fun _ => faP fa74_1 rfl) rfl, fun S hS hD hn => .one0 0 rfl rfl (stB (cs0 := [u6 (bitOp .or .u64 a0.From a1.From), i6 a0.Kind, i6 a0.K]) (cs := [i6 a1.Kind]) (cs1 := [u6 (bitOp .or .u64 a0.From a1.From), i6 a1.Kind, i6 a0.K]) rfl rfl sz72 rfl ⟨Nat.le_of_ble_eq_true rfl, rfl⟩ rfl) (drawE_other _ _ _ _ rfl) rfl, oP (fun _ => faP fa74_2 rfl) rfl, fun S hS hD hn => .one0 0 rfl rfl (stB (cs0 := [u6 (bitOp .or .u64 a0.From a1.From), i6 a1.Kind, i6 a0.K]) (cs := [i6 a1.K]) (cs1 := [u6 (bitOp .or .u64 a0.From a1.From), i6 a1.Kind, i6 a1.K]) rfl rfl sz2 rfl ⟨Nat.le_of_ble_eq_true rfl, rfl⟩ rfl) (drawE_other _ _ _ _ rfl) rfl, trivial⟩) _ (by exact ⟨.ptr rfl, .ptr rfl, trivial⟩) (by rfl)
    refine .seq <| .seq <| .reg0 rfl (.op 0 rfl (faP fa74_1 rfl) <| .op 0 rfl (ldP rfl sz72 ag72 rfl) <| .op 0 rfl (eqI rfl rfl) <| .nil0) ?_
    by_cases c2 : a1.Kind = 2
    · rw [if_pos c2] at h
      refine .condT rfl (bt c2) <| .seq <| .reg0 rfl (.op 0 rfl (bldS (cs := GD_c3) ze74 pl74 rfl rfl) <| .op 0 rfl (stB (cs0 := GD_c0) (cs := GD_c3) (cs1 := GD_c3) rfl rfl sz74 rfl ⟨Nat.le_of_ble_eq_true rfl, rfl⟩ rfl) <| .nil0) ?_
      replace h := h.symm
      subst h
      refine .k [(4, .cptr GD_c3 0)] ⟨cFixP rfl rfl (.cons (.free rfl rfl) <| .cons (.free rfl rfl) <| .cons (.free rfl rfl) <| .nil), trivial⟩ ?_
      exact .ret rfl
    · rw [if_neg c2] at h
      refine .condF rfl (bn c2) <| .skip <| .seq <| .reg0 rfl (.op 0 rfl (ldG rfl sz74 ag74 rfl) <| .op 0 rfl (stB (cs0 := GD_c0) (cs := [u6 (bitOp .or .u64 a0.From a1.From), i6 a1.Kind, i6 a1.K]) (cs1 := [u6 (bitOp .or .u64 a0.From a1.From), i6 a1.Kind, i6 a1.K]) rfl rfl sz74 rfl ⟨Nat.le_of_ble_eq_true rfl, rfl⟩ rfl) <| .nil0) ?_
      replace h := h.symm
      subst h
      refine .k [(4, .cptr [u6 (bitOp .or .u64 a0.From a1.From), i6 a1.Kind, i6 a1.K] 0)] ⟨cFixP rfl rfl (.cons (.free rfl rfl) <| .cons (.free rfl rfl) <| .cons (.free rfl rfl) <| .nil), trivial⟩ ?_
      exact .ret rfl
  · rw [if_neg c1] at h
    refine .condF rfl (bn c1) <| .seq ?_
    refine .reg0 (e1 := listEnv [(4, .ptr 2 1 3 0 0), (5, .ptr 3 1 3 0 0), (41, bo ((!(a1.Kind == 0)) && ((!(a0.Kind == a1.Kind)) || (a0.K != a1.K))))]) (H1 := [⟨3, [(TCell.lit a0)], 0, none⟩, ⟨3, [(TCell.lit a1)], 0, none⟩, ⟨3, [GD_c0], 0, none⟩, ⟨3, [[u6 (bitOp .or .u64 a0.From a1.From), i6 a0.Kind, i6 a0.K]], 0, none⟩]) rfl ?_ ?_
    · refine .o (faP fa74_1 rfl) <| .o (ldP rfl sz72 ag72 rfl) <| .o (neI rfl rfl) <| .m rfl <| ?_
      by_cases c3 : a1.Kind = 0
      · exact (.n rfl (nf c3) <| .n rfl (nf c3) <| .n rfl (nf c3) <| .n rfl (nf c3) <| .n rfl (nf c3) <| .n rfl (nf c3) <| .u rfl <| .u rfl <| .u rfl <| .u rfl <| .u rfl <| .n rfl (nf c3) <| .o (pkFV rfl (nf c3) rfl) <| .nilL _ ⟨.ptr rfl, .ptr rfl, cB rfl (mAndF (bnotF (bt c3))), trivial⟩)
      · refine .g rfl (nt c3) (faP fa74_1 rfl) <| .g rfl (nt c3) (ldP rfl sz72 ag72 rfl) <| .g rfl (nt c3) (faP fa74_1 rfl) <| .g rfl (nt c3) (ldP rfl sz72 ag72 rfl) <| .g rfl (nt c3) (neI rfl rfl) <| .g rfl (nt c3) (mvV rfl) <| ?_
        by_cases c4 : a0.Kind = a1.Kind
        · exact (.g rfl (nf c4) (faP fa74_2 rfl) <| .g rfl (nf c4) (ldP rfl sz2 ag2 rfl) <| .g rfl (nf c4) (faP fa74_2 rfl) <| .g rfl (nf c4) (ldP rfl sz2 ag2 rfl) <| .g rfl (nf c4) (neI rfl rfl) <| .g rfl (nt c3) (pkFV rfl (nf c4) rfl) <| .o (pkTV rfl (nt c3) rfl) <| .nilL _ ⟨.ptr rfl, .ptr rfl, cB rfl (mAndT (bnotT (bn c3)) (mOrF (bnotF (bt c4)) rfl)), trivial⟩)
        · exact (.n rfl (nt c4) <| .n rfl (nt c4) <| .n rfl (nt c4) <| .n rfl (nt c4) <| .n rfl (nt c4) <| .g rfl (nt c3) (pkTV rfl (nt c4) rfl) <| .o (pkTV rfl (nt c3) rfl) <| .nilL _ ⟨.ptr rfl, .ptr rfl, cB rfl (mAndT (bnotT (bn c3)) (mOrT (bnotT (bn c4)))), trivial⟩)
    by_cases c5 : ((!(a1.Kind == 0)) && ((!(a0.Kind == a1.Kind)) || (a0.K != a1.K))) = true
    · rw [if_pos c5] at h
      refine .condT rfl c5 <| .reg0 rfl (.o (faP fa74_1 rfl) <| .o (stB (cs0 := [u6 (bitOp .or .u64 a0.From a1.From), i6 a0.Kind, i6 a0.K]) (cs := [i6 2]) (cs1 := [u6 (bitOp .or .u64 a0.From a1.From), i6 2, i6 a0.K]) rfl rfl sz72 rfl ⟨Nat.le_of_ble_eq_true rfl, rfl⟩ rfl) <| .nil0) <| .seq <| .seq <| .reg0 rfl (.op 0 rfl (faP fa74_1 rfl) <| .op 0 rfl (ldP rfl sz72 ag72 rfl) <| .op 0 rfl (eqI rfl rfl) <| .nil0) ?_
      by_cases c6 : (2 : Int) = 2
      · rw [if_pos c6] at h
        refine .condT rfl (bt c6) <| .seq <| .reg0 rfl (.op 0 rfl (bldS (cs := GD_c3) ze74 pl74 rfl rfl) <| .op 0 rfl (stB (cs0 := GD_c0) (cs := GD_c3) (cs1 := GD_c3) rfl rfl sz74 rfl ⟨Nat.le_of_ble_eq_true rfl, rfl⟩ rfl) <| .nil0) ?_
        replace h := h.symm
        subst h
        refine .k [(4, .cptr GD_c3 0)] ⟨cFixP rfl rfl (.cons (.free rfl rfl) <| .cons (.free rfl rfl) <| .cons (.free rfl rfl) <| .nil), trivial⟩ ?_
        exact .ret rfl
      · rw [if_neg c6] at h
        refine .condF rfl (bn c6) <| .skip <| .seq <| .reg0 rfl (.op 0 rfl (ldG rfl sz74 ag74 rfl) <| .op 0 rfl (stB (cs0 := GD_c0) (cs := [u6 (bitOp .or .u64 a0.From a1.From), i6 2, i6 a0.K]) (cs1 := [u6 (bitOp .or .u64 a0.From a1.From), i6 2, i6 a0.K]) rfl rfl sz74 rfl ⟨Nat.le_of_ble_eq_true rfl, rfl⟩ rfl) <| .nil0) ?_
        replace h := h.symm
        subst h
        refine .k [(4, .cptr [u6 (bitOp .or .u64 a0.From a1.From), i6 2, i6 a0.K] 0)] ⟨cFixP rfl rfl (.cons (.free rfl rfl) <| .cons (.free rfl rfl) <| .cons (.free rfl rfl) <| .nil), trivial⟩ ?_
        exact .ret rfl
    · rw [if_neg c5] at h
      refine .condF rfl (nb c5) <| .skip <| .seq <| .seq <| .reg0 rfl (.op 0 rfl (faP fa74_1 rfl) <| .op 0 rfl (ldP rfl sz72 ag72 rfl) <| .op 0 rfl (eqI rfl rfl) <| .nil0) ?_
      by_cases c7 : a0.Kind = 2
      · rw [if_pos c7] at h
        refine .condT rfl (bt c7) <| .seq <| .reg0 rfl (.op 0 rfl (bldS (cs := GD_c3) ze74 pl74 rfl rfl) <| .op 0 rfl (stB (cs0 := GD_c0) (cs := GD_c3) (cs1 := GD_c3) rfl rfl sz74 rfl ⟨Nat.le_of_ble_eq_true rfl, rfl⟩ rfl) <| .nil0) ?_
        replace h := h.symm
        subst h
        refine .k [(4, .cptr GD_c3 0)] ⟨cFixP rfl rfl (.cons (.free rfl rfl) <| .cons (.free rfl rfl) <| .cons (.free rfl rfl) <| .nil), trivial⟩ ?_
        exact .ret rfl
      · rw [if_neg c7] at h
        refine .condF rfl (bn c7) <| .skip <| .seq <| .reg0 rfl (.op 0 rfl (ldG rfl sz74 ag74 rfl) <| .op 0 rfl (stB (cs0 := GD_c0) (cs := [u6 (bitOp .or .u64 a0.From a1.From), i6 a0.Kind, i6 a0.K]) (cs1 := [u6 (bitOp .or .u64 a0.From a1.From), i6 a0.Kind, i6 a0.K]) rfl rfl sz74 rfl ⟨Nat.le_of_ble_eq_true rfl, rfl⟩ rfl) <| .nil0) ?_
        replace h := h.symm
        subst h
        refine .k [(4, .cptr [u6 (bitOp .or .u64 a0.From a1.From), i6 a0.Kind, i6 a0.K] 0)] ⟨cFixP rfl rfl (.cons (.free rfl rfl) <| .cons (.free rfl rfl) <| .cons (.free rfl rfl) <| .nil), trivial⟩ ?_
        exact .ret rfl
def cells_Both.b1 (a0 : Int) (a1 : List TCell) (a2 : List TCell) : ((List TCell) × Int) → Rnd (((List TCell) × Int)) ((List TCell)) ((List TCell) × Int) → Prop := fun (x2, x3) z1 => if x3 < a0 then (((InR x3 a1.length)) ∧ ((InR x3 a2.length)) ∧ ∃ t16_9 : TCell, (cells_both.f (rdl a1 x3) (rdl a2 x3) t16_9) ∧ ((Fits (x2.length + 1) 24)) ∧ z1 = .next ((x2 ++ [t16_9]), (IntKind.i64.wrap (x3 + 1)))) else (z1 = .exit x2)
def cells_Both.f (a0 : Int) (a1 : List TCell) (a2 : List TCell) (r : (List TCell) × Int) : Prop :=
  ∃ t2_3 : Int, (cells_two.f a0 a1 a2 t2_3) ∧ if t2_3 = 0 then (∃ o1 : Fin ((List TCell)) ((List TCell) × Int), Loop (cells_Both.b1 a0 a1 a2) ([], 0) o1 ∧ o1.on (fun x4 => r = (x4, 0)) (fun r_ => r = r_)) else (r = ([], t2_3))
theorem cells_Both.D {a0 a1 a2 r} (h : cells_Both.f a0 a1 a2 r) : D Tryz.prog X (.callH 75 [.val (.int .i64 a0), .rows (a1.map TCell.cells), .rows (a2.map TCell.cells)] [] (.tuple [.rows (r.1.map TCell.cells), .val (.int .i64 r.2)]) []) := by
  unfold cells_Both.f at h
  refine .enter 36 0 fn75 rfl rfl rfl <| .seq <| .reg0 rfl (.op 0 rfl (asV rfl) <| .op 0 rfl (asV rfl) <| .nil0) <| .seq <| .seq ?_
  obtain ⟨t2_3, g2_3, h⟩ := h
  refine .reg0 rfl (.m rfl <| .o (mvR rfl) <| .o (mvR rfl) <| .c rfl go124 rfl rfl rfl (cells_two.D g2_3) <| .a rfl <| .nil0) <| .seq <| .reg0 rfl (.op 0 rfl (mvV rfl) <| .op 0 rfl (neI rfl rfl) <| .nil0) ?_
  by_cases c1 : t2_3 = 0
  · rw [if_pos c1] at h
    refine .condF rfl (nf c1) <| .skip <| .seq <| .reg0 rfl (.op 0 rfl (asV rfl) <| .nil0) <| .seq <| .seq <| .reg0 rfl (.op 0 rfl (mvV rfl) <| .op 0 rfl (mvV rfl) <| .nil0) <| .block <| .room 3 <| .keepL [0] [(1, .rows (a1.map TCell.cells)), (2, .rows (a2.map TCell.cells)), (9, .own 0 0), (18, i6 a0), (19, i6 0)] [⟨3, [].map TCell.cells, 0, none⟩] (by decide) (by decide) ⟨.free rfl rfl, .free rfl rfl, .nilOwn, .free rfl rfl, .free rfl rfl, trivial⟩ ⟨⟨_, rfl, (bcRow (l := []) sl30 (Nat.le_refl _) rfl)⟩, trivial⟩ ?_
    obtain ⟨o1, hL1, h⟩ := h
    refine .loopB (cells_Both.b1 a0 a1 a2) (fun (x2, x3) => listEnv [(1, .rows (a1.map TCell.cells)), (2, .rows (a2.map TCell.cells)), (9, .own 0 x2.length), (18, i6 a0), (19, i6 x3)]) (fun (x2, x3) => [⟨3, x2.map TCell.cells, 0, none⟩]) (fun x4 => listEnv [(9, .own 0 x4.length)]) (fun x4 => [⟨3, x4.map TCell.cells, 0, none⟩]) hL1 (fun r_ => r = r_) ?_ ?_ ?_
    · rintro x4 rfl
      try dsimp only [Fin.on] at h
      refine .seq <| .reg0 rfl (.op 0 rfl (mvO rfl) <| .op 0 rfl (asO rfl) <| .op 0 rfl (asV rfl) <| .nil0) ?_
      replace h := h.symm
      subst h
      refine .k [(6, .rows (x4.map TCell.cells)), (7, i6 0)] ⟨cFixO (l := x4) sl30 rfl rfl rfl rfl, .free rfl rfl, trivial⟩ ?_
      exact .ret rfl
    · rintro r_ rfl
      exact h
    · rintro ⟨x2, x3⟩ z1 h hn1 hx1 hr1
      dsimp only [cells_Both.b1] at h
      refine .seq <| .reg0 rfl (.op 0 rfl (ltI rfl rfl) <| .nil0) <| .seq ?_
      by_cases c4 : x3 < a0
      · rw [if_pos c4] at h
        refine .condT rfl (dt c4) <| .skip <| .seq <| .block <| .seq <| .reg0 rfl (.op 0 rfl (mvV rfl) <| .op 0 rfl (asV rfl) <| .nil0) ?_
        obtain ⟨g16_3, h⟩ := h
        obtain ⟨g16_7, h⟩ := h
        obtain ⟨t16_9, g16_9, h⟩ := h
        obtain ⟨g16_11, h⟩ := h
        refine .room 0 <| .room 0 ?_
        refine .reg1 (e1 := listEnv [(1, .rows (a1.map TCell.cells)), (2, .rows (a2.map TCell.cells)), (9, .own 0 ((x2 ++ [t16_9]).length)), (18, i6 a0), (19, i6 x3)]) (H1 := [⟨3, (x2 ++ [t16_9]).map TCell.cells, 0, none⟩, ⟨3, [t16_9].map TCell.cells, 0, none⟩, Blk.hole]) rfl ?_ ?_
        · exact .drawM [(12, 9, .own 0 ((x2 ++ [t16_9]).length)), (11, 33, .own 0 ((x2 ++ [t16_9]).length)), (10, 32, .own 1 ([t16_9].length)), (9, 31, .agg (TCell.lit t16_9)), (8, 30, .agg (TCell.lit (rdl a2 x3))), (7, 29, .cptr (TCell.lit (rdl a2 x3)) 0), (6, 28, i6 x3), (5, 27, .rows (a2.map TCell.cells)), (4, 26, .agg (TCell.lit (rdl a1 x3))), (3, 25, .cptr (TCell.lit (rdl a1 x3)) 0), (2, 24, i6 x3), (1, 23, .rows (a1.map TCell.cells)), (0, 22, .own 0 x2.length)] [(11, 0, ⟨3, (x2 ++ [t16_9]).map TCell.cells, 0, none⟩), (10, 1, ⟨3, [t16_9].map TCell.cells, 0, none⟩)] [[], [], [], [1, 2], [3, 1, 2], [], [], [5, 6], [7, 5, 6], [4, 3, 1, 2, 8, 7, 5, 6], [9, 4, 3, 1, 2, 8, 7, 5, 6], [0, 10, 9, 4, 3, 1, 2, 8, 7, 5, 6], [11, 0, 10, 9, 4, 3, 1, 2, 8, 7, 5, 6]] (by rfl) (by rfl) (by rfl) (by exact ⟨oP (fun _ => mvO rfl) rfl, oP (fun _ => mvR rfl) rfl, oP (fun _ => mvV rfl) rfl, oP (fun _ => ixR (l := a1) (lit := TCell.lit) sl30 rfl rfl (fun _ => rfl) g16_3.1 g16_3.2) rfl, oP (fun _ => ldCG rfl sz74 ag74 rfl) rfl, oP (fun _ => mvR rfl) rfl, oP (fun _ => mvV rfl) rfl, oP (fun _ => ixR (l := a2) (lit := TCell.lit) sl30 rfl rfl (fun _ => rfl) g16_7.1 g16_7.2) rfl, oP (fun _ => ldCG rfl sz74 ag74 rfl) rfl, fun S hS hD hn => .oneI hS hD hn rfl rfl (callee_of rfl go125 rfl) (.pure rfl rfl (cells_both.D g16_9)) rfl rfl rfl, oW 1 (fun _ => bldL (s := 3) (cs := [u6 t16_9.From, i6 t16_9.Kind, i6 t16_9.K]) un30 sz74 ze74 ⟨by decide, rfl, by decide⟩ rfl rfl rfl rfl) rfl fun _ => rfl, oW 0 (fun _ => ap1 (l := x2) t16_9 sl30 rfl rfl rfl (Nat.zero_le _) (elems_own (l := [t16_9]) rfl rfl) g16_11) rfl fun _ => rfl, oP (fun _ => asO rfl) rfl, trivial⟩) _ (by exact ⟨.free rfl rfl, .free rfl rfl, .own rfl, .free rfl rfl, .free rfl rfl, trivial⟩) (by rfl)
        refine .inBlock <| .reg0 rfl (.op 0 rfl (addI rfl rfl) <| .op 0 rfl (mvV rfl) <| .nil0) <| .keepL [0] [(1, .rows (a1.map TCell.cells)), (2, .rows (a2.map TCell.cells)), (9, .own 0 ((x2 ++ [t16_9]).length)), (18, i6 a0), (19, i6 (IntKind.i64.wrap (x3 + 1)))] [⟨3, (x2 ++ [t16_9]).map TCell.cells, 0, none⟩] (by decide) (by decide) ⟨.free rfl rfl, .free rfl rfl, .own rfl, .free rfl rfl, .free rfl rfl, trivial⟩ ⟨⟨_, rfl, bcRow (l := (x2 ++ [t16_9])) sl30 (Nat.le_refl _) rfl⟩, trivial⟩ ?_
        exact hn1 _ h
      · rw [if_neg c4] at h
        refine .condF rfl (df c4) <| .exit rfl <| .keepL [0] [(9, .own 0 x2.length)] [⟨3, x2.map TCell.cells, 0, none⟩] (by decide) (by decide) ⟨.own rfl, trivial⟩ ⟨⟨_, rfl, bcRow (l := x2) sl30 (Nat.le_refl _) rfl⟩, trivial⟩ ?_
        exact hx1 _ h
  · rw [if_neg c1] at h
    refine .condT rfl (nt c1) <| .seq <| .reg0 rfl (.op 0 rfl (mvV rfl) <| .op 0 rfl (asV rfl) <| .op 0 rfl (asV rfl) <| .nil0) ?_
    replace h := h.symm
    subst h
    refine .k [(6, .rows (([] : List TCell).map TCell.cells)), (7, i6 t2_3)] ⟨.nil, .free rfl rfl, trivial⟩ ?_
    exact .ret rfl
def weight_either.step (self44 : TSpace → TWeight → TWeight → TWeight → Prop) (a0 : TSpace) (a1 : TWeight) (a2 : TWeight) (r : TWeight) : Prop :=
  if a1.Zero = true then (r = a2) else (if a2.Zero = true then (r = a1) else (if a0.Tag = 2 then (∃ t9_7 : Int × Int, (cost_Least.f a0.Dim [a1.Cost, a2.Cost] t9_7) ∧ r = (TWeight.mk false t9_7.1 (TFacts.mk 0 []) [] [])) else (if a0.Tag = 3 then (∃ t12_6 : TFacts × Int, (facts_Combine.f a0.Dim a1.Facts a2.Facts t12_6) ∧ r = (TWeight.mk false 0 t12_6.1 [] [])) else (if a0.Tag = 4 then (∃ t15_6 : (List TCell) × Int, (cells_Both.f a0.Dim a1.Cells a2.Cells t15_6) ∧ r = (TWeight.mk false 0 (TFacts.mk 0 []) t15_6.1 [])) else (if a0.Tag = 5 then (((InR 0 a0.Parts.length)) ∧ ((InR 0 a1.Parts.length)) ∧ ((InR 0 a2.Parts.length)) ∧ ∃ t18_12 : TWeight, (self44 (rdl a0.Parts 0) (rdl a1.Parts 0) (rdl a2.Parts 0) t18_12) ∧ ((InR 1 a0.Parts.length)) ∧ ((InR 1 a1.Parts.length)) ∧ ((InR 1 a2.Parts.length)) ∧ ∃ t18_25 : TWeight, (self44 (rdl a0.Parts 1) (rdl a1.Parts 1) (rdl a2.Parts 1) t18_25) ∧ r = (TWeight.mk false 0 (TFacts.mk 0 []) [] [t18_12, t18_25])) else (r = (TWeight.mk false 0 (TFacts.mk 0 []) [] [])))))))
theorem weight_either.stepD {self44 : TSpace → TWeight → TWeight → TWeight → Prop} {a0 : TSpace} {a1 : TWeight} {a2 : TWeight} (hs44 : ∀ z0_ z1_ z2_ r_, self44 z0_ z1_ z2_ r_ → D Tryz.prog X (.callH 44 [.agg (TSpace.lit z0_), .agg (TWeight.lit z1_), .agg (TWeight.lit z2_)] [] (.agg (TWeight.lit r_)) [])) {r : TWeight} (h : weight_either.step self44 a0 a1 a2 r) : D Tryz.prog X (.callH 44 [.agg (TSpace.lit a0), .agg (TWeight.lit a1), .agg (TWeight.lit a2)] [] (.agg (TWeight.lit r)) []) := by
  unfold weight_either.step at h
  refine .enter 87 0 fn44 rfl rfl rfl <| .seq <| .room 0 <| .room 0 <| .room 0 <| .room 0 <| .reg0 rfl (.op 0 rfl (bxP (s := 3) (cs := (TSpace.lit a0)) rfl ⟨rfl, by decide, rfl⟩ rfl) <| .op 1 rfl (bxP (s := 6) (cs := (TWeight.lit a1)) rfl ⟨rfl, by decide, rfl⟩ rfl) <| .op 2 rfl (bxP (s := 6) (cs := (TWeight.lit a2)) rfl ⟨rfl, by decide, rfl⟩ rfl) <| .op 3 rfl (alP (s := 6) ze33 ⟨rfl, by decide, rfl⟩ rfl) <| .nil0) ?_
  refine .seq <| .seq <| .reg0 rfl (.op 0 rfl (faP fa33_0 rfl) <| .op 0 rfl (ldP rfl sz4 ag4 rfl) <| .nil0) ?_
  by_cases c1 : a1.Zero = true
  · rw [if_pos c1] at h
    refine .condT rfl c1 <| .seq <| .reg0 rfl (.op 0 rfl (ldG rfl sz33 ag33 rfl) <| .op 0 rfl (stB (cs0 := GD_c1) (cs := (TWeight.lit a2)) (cs1 := (TWeight.lit a2)) rfl rfl sz33 rfl ⟨Nat.le_of_ble_eq_true rfl, rfl⟩ rfl) <| .nil0) ?_
    replace h := h.symm
    subst h
    refine .k [(6, .cptr (TWeight.lit a2) 0)] ⟨cFixP rfl rfl (.cons (.free rfl rfl) <| .cons (.free rfl rfl) <| .cons (.free rfl rfl) <| .cons (.free rfl rfl) <| .cons (.free rfl rfl) <| .cons (.free rfl rfl) <| .nil), trivial⟩ ?_
    exact .ret rfl
  · rw [if_neg c1] at h
    refine .condF rfl (nb c1) <| .skip <| .seq <| .seq <| .reg0 rfl (.op 0 rfl (faP fa33_0 rfl) <| .op 0 rfl (ldP rfl sz4 ag4 rfl) <| .nil0) ?_
    by_cases c2 : a2.Zero = true
    · rw [if_pos c2] at h
      refine .condT rfl c2 <| .seq <| .reg0 rfl (.op 0 rfl (ldG rfl sz33 ag33 rfl) <| .op 0 rfl (stB (cs0 := GD_c1) (cs := (TWeight.lit a1)) (cs1 := (TWeight.lit a1)) rfl rfl sz33 rfl ⟨Nat.le_of_ble_eq_true rfl, rfl⟩ rfl) <| .nil0) ?_
      replace h := h.symm
      subst h
      refine .k [(6, .cptr (TWeight.lit a1) 0)] ⟨cFixP rfl rfl (.cons (.free rfl rfl) <| .cons (.free rfl rfl) <| .cons (.free rfl rfl) <| .cons (.free rfl rfl) <| .cons (.free rfl rfl) <| .cons (.free rfl rfl) <| .nil), trivial⟩ ?_
      exact .ret rfl
    · rw [if_neg c2] at h
      refine .condF rfl (nb c2) <| .skip <| .seq <| .room 0 <| .reg0 rfl (.op 4 rfl (alP (s := 6) ze33 ⟨rfl, by decide, rfl⟩ rfl) <| .nil0) <| .seq <| .seq <| .reg0 rfl (.op 0 rfl (faP fa25_0 rfl) <| .op 0 rfl (ldP rfl sz22 ag22 rfl) <| .nil0) <| .block <| .seq <| .reg0 rfl (.op 0 rfl (eqI rfl rfl) <| .op 0 rfl (asV rfl) <| .nil0) ?_
      by_cases c3 : a0.Tag = 2
      · rw [if_pos c3] at h
        refine .condT rfl (bt c3) ?_
        obtain ⟨t9_7, g9_7, h⟩ := h
        refine .room 0 <| .reg0 rfl (.op 0 rfl (faP fa25_1 rfl) <| .op 0 rfl (ldP rfl sz3 ag3 rfl) <| .op 0 rfl (faP fa33_1 rfl) <| .op 0 rfl (ldP rfl sz3 ag3 rfl) <| .op 0 rfl (faP fa33_1 rfl) <| .op 0 rfl (ldP rfl sz3 ag3 rfl) <| .op 5 rfl (bldL (s := 1) (cs := [i6 a1.Cost, i6 a2.Cost]) un152 sz3 ze3 ⟨by decide, rfl, by decide⟩ rfl rfl rfl rfl) <| .callI rfl (callee_of rfl go73 rfl) (.lendC (args' := [i6 a0.Dim, .rows ([a1.Cost, a2.Cost].map (cInt .i64))])  [5] false (.cons (.free rfl rfl) <| .cons (cFixO (l := [a1.Cost, a2.Cost]) sl152 rfl rfl rfl rfl) <| .nil) (by decide) rfl rfl rfl rfl (cost_Least.D g9_7)) <| .op 0 rfl (mvT rfl) <| .op 0 rfl (exT rfl rfl) <| .op 0 rfl (exT rfl rfl) <| .op 0 rfl (faP fa33_1 rfl) <| .op 0 rfl (stB (cs0 := GD_c1) (cs := [i6 t9_7.1]) (cs1 := [bo false, i6 t9_7.1, u6 0, nul, nul, nul]) rfl rfl sz3 rfl ⟨Nat.le_of_ble_eq_true rfl, rfl⟩ rfl) <| .nil0) ?_
        refine .inBlock <| .seq <| .reg0 rfl (.op 0 rfl (ldG rfl sz33 ag33 rfl) <| .op 0 rfl (stB (cs0 := GD_c1) (cs := [bo false, i6 t9_7.1, u6 0, nul, nul, nul]) (cs1 := [bo false, i6 t9_7.1, u6 0, nul, nul, nul]) rfl rfl sz33 rfl ⟨Nat.le_of_ble_eq_true rfl, rfl⟩ rfl) <| .nil0) ?_
        replace h := h.symm
        subst h
        refine .k [(6, .cptr [bo false, i6 t9_7.1, u6 0, .rows (([] : List Int).map (cInt .u64)), .rows (([] : List TCell).map TCell.cells), .rows (([] : List TWeight).map TWeight.cells)] 0)] ⟨cFixP rfl rfl (.cons (.free rfl rfl) <| .cons (.free rfl rfl) <| .cons (.free rfl rfl) <| .cons (.nil) <| .cons (.nil) <| .cons (.nil) <| .nil), trivial⟩ ?_
        exact .ret rfl
      · rw [if_neg c3] at h
        refine .condF rfl (bn c3) <| .seq <| .reg0 rfl (.op 0 rfl (eqI rfl rfl) <| .op 0 rfl (asV rfl) <| .nil0) ?_
        by_cases c4 : a0.Tag = 3
        · rw [if_pos c4] at h
          refine .condT rfl (bt c4) ?_
          obtain ⟨t12_6, g12_6, h⟩ := h
          refine .reg0 rfl (.o (faP fa25_1 rfl) <| .o (ldP rfl sz3 ag3 rfl) <| .o (faP fa33_2 rfl) <| .o (ldG rfl sz29 ag29 rfl) <| .o (faP fa33_2 rfl) <| .o (ldG rfl sz29 ag29 rfl) <| .c rfl go74 rfl rfl rfl (facts_Combine.D g12_6) <| .o (mvT rfl) <| .o (exT rfl rfl) <| .o (exT rfl rfl) <| .o (faP fa33_2 rfl) <| .o (stB (cs0 := GD_c1) (cs := (TFacts.lit t12_6.1)) (cs1 := [bo false, i6 0, u6 t12_6.1.Gen, .rows (t12_6.1.Rows.map (cInt .u64)), nul, nul]) rfl rfl sz29 rfl ⟨Nat.le_of_ble_eq_true rfl, rfl⟩ rfl) <| .nil0) ?_
          refine .inBlock <| .seq <| .reg0 rfl (.op 0 rfl (ldG rfl sz33 ag33 rfl) <| .op 0 rfl (stB (cs0 := GD_c1) (cs := [bo false, i6 0, u6 t12_6.1.Gen, .rows (t12_6.1.Rows.map (cInt .u64)), nul, nul]) (cs1 := [bo false, i6 0, u6 t12_6.1.Gen, .rows (t12_6.1.Rows.map (cInt .u64)), nul, nul]) rfl rfl sz33 rfl ⟨Nat.le_of_ble_eq_true rfl, rfl⟩ rfl) <| .nil0) ?_
          replace h := h.symm
          subst h
          refine .k [(6, .cptr [bo false, i6 0, u6 t12_6.1.Gen, .rows (t12_6.1.Rows.map (cInt .u64)), .rows (([] : List TCell).map TCell.cells), .rows (([] : List TWeight).map TWeight.cells)] 0)] ⟨cFixP rfl rfl (.cons (.free rfl rfl) <| .cons (.free rfl rfl) <| .cons (.free rfl rfl) <| .cons (.free rfl rfl) <| .cons (.nil) <| .cons (.nil) <| .nil), trivial⟩ ?_
          exact .ret rfl
        · rw [if_neg c4] at h
          refine .condF rfl (bn c4) <| .seq <| .reg0 rfl (.op 0 rfl (eqI rfl rfl) <| .op 0 rfl (asV rfl) <| .nil0) ?_
          by_cases c5 : a0.Tag = 4
          · rw [if_pos c5] at h
            refine .condT rfl (bt c5) ?_
            obtain ⟨t15_6, g15_6, h⟩ := h
            refine .reg0 rfl (.o (faP fa25_1 rfl) <| .o (ldP rfl sz3 ag3 rfl) <| .o (faP fa33_3 rfl) <| .o (ldP rfl sz30 ag30 rfl) <| .o (faP fa33_3 rfl) <| .o (ldP rfl sz30 ag30 rfl) <| .c rfl go75 rfl rfl rfl (cells_Both.D g15_6) <| .o (mvT rfl) <| .o (exT rfl rfl) <| .o (exT rfl rfl) <| .o (faP fa33_3 rfl) <| .o (stB (cs0 := GD_c1) (cs := [.rows (t15_6.1.map TCell.cells)]) (cs1 := [bo false, i6 0, u6 0, nul, .rows (t15_6.1.map TCell.cells), nul]) rfl rfl sz30 rfl ⟨Nat.le_of_ble_eq_true rfl, rfl⟩ rfl) <| .nil0) ?_
            refine .inBlock <| .seq <| .reg0 rfl (.op 0 rfl (ldG rfl sz33 ag33 rfl) <| .op 0 rfl (stB (cs0 := GD_c1) (cs := [bo false, i6 0, u6 0, nul, .rows (t15_6.1.map TCell.cells), nul]) (cs1 := [bo false, i6 0, u6 0, nul, .rows (t15_6.1.map TCell.cells), nul]) rfl rfl sz33 rfl ⟨Nat.le_of_ble_eq_true rfl, rfl⟩ rfl) <| .nil0) ?_
            replace h := h.symm
            subst h
            refine .k [(6, .cptr [bo false, i6 0, u6 0, .rows (([] : List Int).map (cInt .u64)), .rows (t15_6.1.map TCell.cells), .rows (([] : List TWeight).map TWeight.cells)] 0)] ⟨cFixP rfl rfl (.cons (.free rfl rfl) <| .cons (.free rfl rfl) <| .cons (.free rfl rfl) <| .cons (.nil) <| .cons (.free rfl rfl) <| .cons (.nil) <| .nil), trivial⟩ ?_
            exact .ret rfl
          · rw [if_neg c5] at h
            refine .condF rfl (bn c5) <| .seq <| .reg0 rfl (.op 0 rfl (eqI rfl rfl) <| .op 0 rfl (asV rfl) <| .nil0) ?_
            by_cases c6 : a0.Tag = 5
            · rw [if_pos c6] at h
              refine .condT rfl (bt c6) ?_
              obtain ⟨g18_2, h⟩ := h
              obtain ⟨g18_6, h⟩ := h
              obtain ⟨g18_10, h⟩ := h
              obtain ⟨t18_12, g18_12, h⟩ := h
              obtain ⟨g18_15, h⟩ := h
              obtain ⟨g18_19, h⟩ := h
              obtain ⟨g18_23, h⟩ := h
              obtain ⟨t18_25, g18_25, h⟩ := h
              refine .room 0 ?_
              refine .reg1 (e1 := listEnv [(6, .ptr 3 1 6 0 0), (7, .ptr 4 1 6 0 0)]) (H1 := [⟨3, [(TSpace.lit a0)], 0, none⟩, ⟨6, [(TWeight.lit a1)], 0, none⟩, ⟨6, [(TWeight.lit a2)], 0, none⟩, ⟨6, [GD_c1], 0, none⟩, ⟨6, [[bo false, i6 0, u6 0, nul, nul, .own 5 ([t18_12, t18_25].length)]], 0, none⟩, ⟨6, [t18_12, t18_25].map TWeight.cells, 0, none⟩]) rfl ?_ ?_
              · exact .drawM [(27, 85, .ptr 4 1 6 0 5), (26, 84, .own 5 ([t18_12, t18_25].length)), (25, 83, .agg (TWeight.lit t18_25)), (24, 82, .agg (TWeight.lit (rdl a2.Parts 1))), (23, 81, .cptr (TWeight.lit (rdl a2.Parts 1)) 0), (22, 80, .rows (a2.Parts.map TWeight.cells)), (21, 79, .ptr 2 1 6 0 5), (20, 78, .agg (TWeight.lit (rdl a1.Parts 1))), (19, 77, .cptr (TWeight.lit (rdl a1.Parts 1)) 0), (18, 76, .rows (a1.Parts.map TWeight.cells)), (17, 75, .ptr 1 1 6 0 5), (16, 74, .agg (TSpace.lit (rdl a0.Parts 1))), (15, 73, .cptr (TSpace.lit (rdl a0.Parts 1)) 0), (14, 72, .rows (a0.Parts.map TSpace.cells)), (13, 71, .ptr 0 1 3 0 2), (12, 70, .agg (TWeight.lit t18_12)), (11, 69, .agg (TWeight.lit (rdl a2.Parts 0))), (10, 68, .cptr (TWeight.lit (rdl a2.Parts 0)) 0), (9, 67, .rows (a2.Parts.map TWeight.cells)), (8, 66, .ptr 2 1 6 0 5), (7, 65, .agg (TWeight.lit (rdl a1.Parts 0))), (6, 64, .cptr (TWeight.lit (rdl a1.Parts 0)) 0), (5, 63, .rows (a1.Parts.map TWeight.cells)), (4, 62, .ptr 1 1 6 0 5), (3, 61, .agg (TSpace.lit (rdl a0.Parts 0))), (2, 60, .cptr (TSpace.lit (rdl a0.Parts 0)) 0), (1, 59, .rows (a0.Parts.map TSpace.cells)), (0, 58, .ptr 0 1 3 0 2)] [(28, 4, ⟨6, [[bo false, i6 0, u6 0, nul, nul, .own 5 ([t18_12, t18_25].length)]], 0, none⟩), (26, 5, ⟨6, [t18_12, t18_25].map TWeight.cells, 0, none⟩)] [[], [0], [1, 0], [2, 1, 0], [], [4], [5, 4], [6, 5, 4], [], [8], [9, 8], [10, 9, 8], [3, 2, 1, 0, 7, 6, 5, 4, 11, 10, 9, 8], [], [13], [14, 13], [15, 14, 13], [], [17], [18, 17], [19, 18, 17], [], [21], [22, 21], [23, 22, 21], [16, 15, 14, 13, 20, 19, 18, 17, 24, 23, 22, 21, 12, 3, 2, 1, 0, 7, 6, 5, 4, 11, 10, 9, 8], [12, 3, 2, 1, 0, 7, 6, 5, 4, 11, 10, 9, 8, 25, 16, 15, 14, 13, 20, 19, 18, 17, 24, 23, 22, 21], [0, 1, 2, 3, 4, 5, 6, 7, 8, 9, 10, 11, 12, 13, 14, 15, 16, 17, 18, 19, 20, 21, 22, 23, 24, 25, 26], [27, 0, 1, 2, 3, 4, 5, 6, 7, 8, 9, 10, 11, 12, 13, 14, 15, 16, 17, 18, 19, 20, 21, 22, 23, 24, 25, 26]] (by rfl) (by rfl) (by rfl) (by exact ⟨oP (fun _ => faP fa25_2 rfl) rfl, oP (fun _ => ldP rfl sz23 ag23 rfl) rfl, oP (fun _ => ixR (l := a0.Parts) (lit := TSpace.lit) sl23 rfl rfl TSpace.cells_lit g18_2.1 g18_2.2) rfl, oP (fun _ => ldCG rfl sz25 ag25 rfl) rfl, oP (fun _ => faP fa33_4 rfl) rfl, oP (fun _ => ldP rfl sz31 ag31 rfl) rfl, oP (fun _ => ixR (l := a1.Parts) (lit := TWeight.lit) sl31 rfl rfl TWeight.cells_lit g18_6.1 g18_6.2) rfl, oP (fun _ => ldCG rfl sz33 ag33 rfl) rfl, oP (fun _ => faP fa33_4 rfl) rfl, oP (fun _ => ldP rfl sz31 ag31 rfl) rfl, oP (fun _ => ixR (l := a2.Parts) (lit := TWeight.lit) sl31 rfl rfl TWeight.cells_lit g18_10.1 g18_10.2) rfl, oP (fun _ => ldCG rfl sz33 ag33 rfl) rfl, fun S hS hD hn => .oneI hS hD hn rfl rfl (callee_of rfl go44 rfl) (.pure rfl rfl (hs44 _ _ _ _ g18_12)) rfl rfl rfl, oP (fun _ => faP fa25_2 rfl) rfl, oP (fun _ => ldP rfl sz23 ag23 rfl) rfl, oP (fun _ => ixR (l := a0.Parts) (lit := TSpace.lit) sl23 rfl rfl TSpace.cells_lit g18_15.1 g18_15.2) rfl, oP (fun _ => ldCG rfl sz25 ag25 rfl) rfl, oP (fun _ => faP fa33_4 rfl) rfl, oP (fun _ => ldP rfl sz31 ag31 rfl) rfl, oP (fun _ => ixR (l := a1.Parts) (lit := TWeight.lit) sl31 rfl rfl TWeight.cells_lit g18_19.1 g18_19.2) rfl, oP (fun _ => ldCG rfl sz33 ag33 rfl) rfl, oP (fun _ => faP fa33_4 rfl) rfl, oP (fun _ => ldP rfl sz31 ag31 rfl) rfl, oP (fun _ => ixR (l := a2.Parts) (lit := TWeight.lit) sl31 rfl rfl TWeight.cells_lit g18_23.1 g18_23.2) rfl, oP (fun _ => ldCG rfl sz33 ag33 rfl) rfl, fun S hS hD hn => .oneI hS hD hn rfl rfl (callee_of rfl go44 rfl) (.pure rfl rfl (hs44 _ _ _ _ g18_25)) rfl rfl rfl, oW 5 (fun _ => bldT (s := 6) (cs := [bo t18_12.Zero, i6 t18_12.Cost, u6 t18_12.Facts.Gen, .rows (t18_12.Facts.Rows.map (cInt .u64)), .rows (t18_12.Cells.map TCell.cells), .rows (t18_12.Parts.map TWeight.cells), bo t18_25.Zero, i6 t18_25.Cost, u6 t18_25.Facts.Gen, .rows (t18_25.Facts.Rows.map (cInt .u64)), .rows (t18_25.Cells.map TCell.cells), .rows (t18_25.Parts.map TWeight.cells)]) (cf := TWeight.cells) [t18_12, t18_25] un31 sz33 ze33 ⟨by decide, rfl, by decide⟩ rfl rfl rfl (by simp only [List.map, TWeight.cells_lit]; rfl) rfl) rfl fun _ => rfl, oP (fun _ => faP fa33_4 rfl) rfl, fun S hS hD hn => .one0 0 rfl rfl (stB (cs0 := GD_c1) (cs := [.own 5 ([t18_12, t18_25].length)]) (cs1 := [bo false, i6 0, u6 0, nul, nul, .own 5 ([t18_12, t18_25].length)]) rfl rfl sz31 rfl ⟨Nat.le_of_ble_eq_true rfl, rfl⟩ rfl) (drawE_other _ _ _ _ rfl) rfl, trivial⟩) _ (by exact ⟨.ptr rfl, .ptr rfl, trivial⟩) (by rfl)
              refine .inBlock <| .seq <| .reg0 rfl (.op 0 rfl (ldG rfl sz33 ag33 rfl) <| .op 0 rfl (stB (cs0 := GD_c1) (cs := [bo false, i6 0, u6 0, nul, nul, .own 5 ([t18_12, t18_25].length)]) (cs1 := [bo false, i6 0, u6 0, nul, nul, .own 5 ([t18_12, t18_25].length)]) rfl rfl sz33 rfl ⟨Nat.le_of_ble_eq_true rfl, rfl⟩ rfl) <| .nil0) ?_
              replace h := h.symm
              subst h
              refine .k [(6, .cptr [bo false, i6 0, u6 0, .rows (([] : List Int).map (cInt .u64)), .rows (([] : List TCell).map TCell.cells), .rows ([t18_12, t18_25].map TWeight.cells)] 0)] ⟨cFixP rfl rfl (.cons (.free rfl rfl) <| .cons (.free rfl rfl) <| .cons (.free rfl rfl) <| .cons (.nil) <| .cons (.nil) <| .cons (cFixO (l := [t18_12, t18_25]) sl31 rfl rfl rfl rfl) <| .nil), trivial⟩ ?_
              exact .ret rfl
            · rw [if_neg c6] at h
              refine .condF rfl (bn c6) <| .skip <| .inBlock <| .seq <| .reg0 rfl (.op 0 rfl (ldG rfl sz33 ag33 rfl) <| .op 0 rfl (stB (cs0 := GD_c1) (cs := GD_c1) (cs1 := GD_c1) rfl rfl sz33 rfl ⟨Nat.le_of_ble_eq_true rfl, rfl⟩ rfl) <| .nil0) ?_
              replace h := h.symm
              subst h
              refine .k [(6, .cptr [bo false, i6 0, u6 0, .rows (([] : List Int).map (cInt .u64)), .rows (([] : List TCell).map TCell.cells), .rows (([] : List TWeight).map TWeight.cells)] 0)] ⟨cFixP rfl rfl (.cons (.free rfl rfl) <| .cons (.free rfl rfl) <| .cons (.free rfl rfl) <| .cons (.nil) <| .cons (.nil) <| .cons (.nil) <| .nil), trivial⟩ ?_
              exact .ret rfl
def weight_either.fN : Nat → TSpace → TWeight → TWeight → TWeight → Prop
  | 0 => fun _ _ _ _ => False
  | n + 1 => weight_either.step (weight_either.fN n)
theorem weight_either.ND : ∀ (n : Nat) {a0 : TSpace} {a1 : TWeight} {a2 : TWeight} {r : TWeight} (h : weight_either.fN n a0 a1 a2 r), D Tryz.prog X (.callH 44 [.agg (TSpace.lit a0), .agg (TWeight.lit a1), .agg (TWeight.lit a2)] [] (.agg (TWeight.lit r)) [])
  | 0, _, _, _, _, h => h.elim
  | n + 1, _, _, _, _, h => weight_either.stepD (fun _ _ _ _ h => weight_either.ND n h) h
def weight_either.f (a0 : TSpace) (a1 : TWeight) (a2 : TWeight) (r : TWeight) : Prop := ∃ n, weight_either.fN n a0 a1 a2 r
theorem weight_either.D {a0 a1 a2 r} (h : weight_either.f a0 a1 a2 r) : D Tryz.prog X (.callH 44 [.agg (TSpace.lit a0), .agg (TWeight.lit a1), .agg (TWeight.lit a2)] [] (.agg (TWeight.lit r)) []) := by obtain ⟨n, h⟩ := h; exact weight_either.ND n h
def slices_Clone_uint64.f (a0 : List Int) (r : (List Int)) : Prop :=
  if a0.length = 0 then (∀ (z_ : Option Addr) (k_ : Nat), if z_.isNone = true then (r = []) else (((Fits (0 + 0) 8)) ∧ r = [])) else (((Fits (0 + a0.length) 8)) ∧ r = a0)
theorem slices_Clone_uint64.D {a0 r} (h : slices_Clone_uint64.f a0 r) : D Tryz.prog X (.callH 76 [.rows (a0.map (cInt .u64))] [] (.rows (r.map (cInt .u64))) []) := by
  unfold slices_Clone_uint64.f at h
  by_cases c0_ : a0.length = 0
  · rw [if_pos c0_] at h
    have e0_ := List.eq_nil_of_length_eq_zero c0_
    subst e0_
    refine .nilQ [] [] fun z_ k_ => ?_
    replace h := h z_ k_
    refine .enter 8 0 fn76 rfl rfl rfl <| .seq <| .reg0 rfl (.op 0 rfl (asV rfl) <| .nil0) <| .seq <| .seq <| .reg0 rfl (.op 0 rfl (mvV rfl) <| .op 0 rfl (eqEN un27 rfl rfl) <| .nil0) ?_
    by_cases c1 : z_.isNone = true
    · rw [if_pos c1] at h
      refine .condT rfl c1 <| .seq <| .reg0 rfl (.op 0 rfl (asV rfl) <| .nil0) ?_
      replace h := h.symm
      subst h
      refine .k [(2, .rows (([] : List Int).map (cInt .u64)))] ⟨.nil, trivial⟩ ?_
      exact .ret rfl
    · rw [if_neg c1] at h
      refine .condF rfl (nb c1) <| .skip <| .seq ?_
      obtain ⟨g4_2, h⟩ := h
      refine .room 0 <| .room 0 <| .reg0 rfl (.op 0 rfl (bldL (s := 1) (cs := []) un27 sz26 ze26 ⟨by decide, rfl, by decide⟩ rfl rfl rfl rfl) <| .op 0 rfl (mvV rfl) <| .op 0 rfl (apL (l := []) [] sl27 rfl rfl rfl (Nat.zero_le _) rfl g4_2) <| .op 0 rfl (asO rfl) <| .nil0) ?_
      replace h := h.symm
      subst h
      refine .k [(2, .rows ([].map (cInt .u64)))] ⟨cFixO (l := []) sl27 rfl rfl rfl rfl, trivial⟩ ?_
      exact .ret rfl
  · rw [if_neg c0_] at h
    refine .enter 8 0 fn76 rfl rfl rfl <| .seq <| .reg0 rfl (.op 0 rfl (asV rfl) <| .nil0) <| .seq <| .seq <| .reg0 rfl (.op 0 rfl (mvR rfl) <| .op 0 rfl (eqRN c0_ un27 rfl rfl) <| .nil0) <| .condF rfl rfl <| .skip <| .seq ?_
    obtain ⟨g7_2, h⟩ := h
    refine .room 0 <| .room 0 <| .reg0 rfl (.op 0 rfl (bldL (s := 1) (cs := []) un27 sz26 ze26 ⟨by decide, rfl, by decide⟩ rfl rfl rfl rfl) <| .op 0 rfl (mvR rfl) <| .op 0 rfl (apL (l := []) a0 sl27 rfl rfl rfl (Nat.zero_le _) rfl g7_2) <| .op 0 rfl (asO rfl) <| .nil0) ?_
    replace h := h.symm
    subst h
    refine .k [(2, .rows (a0.map (cInt .u64)))] ⟨cFixO (l := a0) sl27 rfl rfl rfl rfl, trivial⟩ ?_
    exact .ret rfl
def slices_Clone_Cell.f (a0 : List TCell) (r : (List TCell)) : Prop :=
  if a0.length = 0 then (∀ (z_ : Option Addr) (k_ : Nat), if z_.isNone = true then (r = []) else (((Fits (0 + 0) 24)) ∧ r = [])) else (((Fits (0 + a0.length) 24)) ∧ r = a0)
theorem slices_Clone_Cell.D {a0 r} (h : slices_Clone_Cell.f a0 r) : D Tryz.prog X (.callH 77 [.rows (a0.map TCell.cells)] [] (.rows (r.map TCell.cells)) []) := by
  unfold slices_Clone_Cell.f at h
  by_cases c0_ : a0.length = 0
  · rw [if_pos c0_] at h
    have e0_ := List.eq_nil_of_length_eq_zero c0_
    subst e0_
    refine .nilQ [] [] fun z_ k_ => ?_
    replace h := h z_ k_
    refine .enter 8 0 fn77 rfl rfl rfl <| .seq <| .reg0 rfl (.op 0 rfl (asV rfl) <| .nil0) <| .seq <| .seq <| .reg0 rfl (.op 0 rfl (mvV rfl) <| .op 0 rfl (eqEN un30 rfl rfl) <| .nil0) ?_
    by_cases c1 : z_.isNone = true
    · rw [if_pos c1] at h
      refine .condT rfl c1 <| .seq <| .reg0 rfl (.op 0 rfl (asV rfl) <| .nil0) ?_
      replace h := h.symm
      subst h
      refine .k [(2, .rows (([] : List TCell).map TCell.cells))] ⟨.nil, trivial⟩ ?_
      exact .ret rfl
    · rw [if_neg c1] at h
      refine .condF rfl (nb c1) <| .skip <| .seq ?_
      obtain ⟨g4_2, h⟩ := h
      refine .room 0 <| .room 0 <| .reg0 rfl (.op 0 rfl (bldL (s := 3) (cs := []) un30 sz74 ze74 ⟨by decide, rfl, by decide⟩ rfl rfl rfl rfl) <| .op 0 rfl (mvV rfl) <| .op 0 rfl (apL (l := []) [] sl30 rfl rfl rfl (Nat.zero_le _) rfl g4_2) <| .op 0 rfl (asO rfl) <| .nil0) ?_
      replace h := h.symm
      subst h
      refine .k [(2, .rows ([].map TCell.cells))] ⟨cFixO (l := []) sl30 rfl rfl rfl rfl, trivial⟩ ?_
      exact .ret rfl
  · rw [if_neg c0_] at h
    refine .enter 8 0 fn77 rfl rfl rfl <| .seq <| .reg0 rfl (.op 0 rfl (asV rfl) <| .nil0) <| .seq <| .seq <| .reg0 rfl (.op 0 rfl (mvR rfl) <| .op 0 rfl (eqRN c0_ un30 rfl rfl) <| .nil0) <| .condF rfl rfl <| .skip <| .seq ?_
    obtain ⟨g7_2, h⟩ := h
    refine .room 0 <| .room 0 <| .reg0 rfl (.op 0 rfl (bldL (s := 3) (cs := []) un30 sz74 ze74 ⟨by decide, rfl, by decide⟩ rfl rfl rfl rfl) <| .op 0 rfl (mvR rfl) <| .op 0 rfl (apL (l := []) a0 sl30 rfl rfl rfl (Nat.zero_le _) rfl g7_2) <| .op 0 rfl (asO rfl) <| .nil0) ?_
    replace h := h.symm
    subst h
    refine .k [(2, .rows (a0.map TCell.cells))] ⟨cFixO (l := a0) sl30 rfl rfl rfl rfl, trivial⟩ ?_
    exact .ret rfl
end Go.RM.Tryz
