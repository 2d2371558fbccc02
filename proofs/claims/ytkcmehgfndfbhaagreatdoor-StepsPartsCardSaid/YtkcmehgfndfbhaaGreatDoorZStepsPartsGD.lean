/- GD, for the statement StepsParts: what it needs, no more. -/
import Derived.Test.YtkcmehgfndfbhaaGreatDoorZStepsPartsGC
set_option linter.unusedVariables false
set_option maxRecDepth 8000
set_option maxHeartbeats 4000000
namespace Go.RM.Tryz
open Go.RM Go.Proofs
def cells_Check.b1 (a0 : Int) (a1 : List TCell) : Int → Rnd Int Unit Int → Prop := fun x1 z1 => if x1 < (a1.length : Int) then (((InR x1 a1.length)) ∧ ∃ t18_2 : Bool, (cells_right.f a0 (rdl a1 x1) t18_2) ∧ if t18_2 = true then (z1 = .next (IntKind.i64.wrap (x1 + 1))) else (z1 = .ret 40)) else (z1 = .exit ())
def cells_Check.f (a0 : Int) (a1 : List TCell) (r : Int) : Prop :=
  ∃ t2_1 : Int, (cells_dims.f a0 t2_1) ∧ if t2_1 = 0 then (if (a1.length : Int) = a0 then (∃ o1 : Fin Unit Int, Loop (cells_Check.b1 a0 a1) 0 o1 ∧ o1.on (fun _ => r = 0) (fun r_ => r = r_)) else (r = 40)) else (r = t2_1)
abbrev GD_c0 : List PV := [i6 0, i6 0, i6 0, nul, bo false, i6 0, u6 0, nul, nul, nul]
theorem cells_Check.D {a0 a1 r} (h : cells_Check.f a0 a1 r) : D Tryz.prog X (.callH 106 [.val (.int .i64 a0), .rows (a1.map TCell.cells)] [] (.val (.int .i64 r)) []) := by
  unfold cells_Check.f at h
  refine .enter 28 0 fn106 rfl rfl rfl <| .seq <| .reg0 rfl (.op 0 rfl (asV rfl) <| .nil0) <| .seq <| .seq ?_
  obtain ⟨t2_1, g2_1, h⟩ := h
  refine .reg0 rfl (.m rfl <| .c rfl go100 rfl rfl rfl (cells_dims.D g2_1) <| .a rfl <| .nil0) <| .seq <| .reg0 rfl (.op 0 rfl (mvV rfl) <| .op 0 rfl (neI rfl rfl) <| .nil0) ?_
  by_cases c1 : t2_1 = 0
  · rw [if_pos c1] at h
    refine .condF rfl (nf c1) <| .skip <| .seq <| .seq <| .reg0 rfl (.op 0 rfl (mvR rfl) <| .op 0 rfl (lnR (l := a1) sl36 rfl) <| .op 0 rfl (mvV rfl) <| .op 0 rfl (neI rfl rfl) <| .nil0) ?_
    by_cases c2 : (a1.length : Int) = a0
    · rw [if_pos c2] at h
      refine .condF rfl (nf c2) <| .skip <| .seq <| .seq <| .reg0 rfl (.op 0 rfl (mvR rfl) <| .op 0 rfl (lnR (l := a1) sl36 rfl) <| .op 0 rfl (mvV rfl) <| .nil0) <| .block <| .keepL [] [(0, i6 a0), (17, .rows (a1.map TCell.cells)), (18, i6 (a1.length : Int)), (19, i6 0)] [] (by decide) (by decide) ⟨.free rfl rfl, .free rfl rfl, .free rfl rfl, .free rfl rfl, trivial⟩ trivial ?_
      obtain ⟨o1, hL1, h⟩ := h
      refine .loopB (cells_Check.b1 a0 a1) (fun x1 => listEnv [(0, i6 a0), (17, .rows (a1.map TCell.cells)), (18, i6 (a1.length : Int)), (19, i6 x1)]) (fun x1 => []) (fun _ => listEnv []) (fun _ => []) hL1 (fun r_ => r = r_) ?_ ?_ ?_
      · rintro ⟨⟩ rfl
        try dsimp only [Fin.on] at h
        refine .seq <| .reg0 rfl (.op 0 rfl (asV rfl) <| .nil0) ?_
        replace h := h.symm
        subst h
        refine .kf [(4, i6 0)] rfl rfl ?_
        exact .ret rfl
      · rintro r_ rfl
        exact h
      · rintro x1 z1 h hn1 hx1 hr1
        dsimp only [cells_Check.b1] at h
        refine .seq <| .reg0 rfl (.op 0 rfl (ltI rfl rfl) <| .nil0) <| .seq ?_
        by_cases c7 : x1 < (a1.length : Int)
        · rw [if_pos c7] at h
          refine .condT rfl (dt c7) <| .skip <| .seq <| .block <| .seq ?_
          obtain ⟨g17_0, h⟩ := h
          refine .room 0 <| .reg0 rfl (.op 0 rfl (ixR (l := a1) (lit := TCell.lit) sl36 rfl rfl (fun _ => rfl) g17_0.1 g17_0.2) <| .op 0 rfl (ldCG rfl sz81 ag81 rfl) <| .op 0 rfl (alP (s := 3) ze81 ⟨rfl, by decide, rfl⟩ rfl) <| .op 0 rfl (stB (cs0 := [u6 0, i6 0, i6 0]) (cs := (TCell.lit (rdl a1 x1))) (cs1 := (TCell.lit (rdl a1 x1))) rfl rfl sz81 rfl ⟨Nat.le_of_ble_eq_true rfl, rfl⟩ rfl) <| .nil0) ?_
          refine .seq ?_
          obtain ⟨t18_2, g18_2, h⟩ := h
          refine .reg0 rfl (.m rfl <| .o (ldG rfl sz81 ag81 rfl) <| .c rfl go121 rfl rfl rfl (cells_right.D g18_2) <| .o (notB rfl) <| .nil0) ?_
          by_cases c8 : t18_2 = true
          · rw [if_pos c8] at h
            refine .condF rfl (bnotF c8) <| .skip <| .inBlock <| .reg0 rfl (.op 0 rfl (addI rfl rfl) <| .op 0 rfl (mvV rfl) <| .nil0) <| .kf [(0, i6 a0), (17, .rows (a1.map TCell.cells)), (18, i6 (a1.length : Int)), (19, i6 (IntKind.i64.wrap (x1 + 1)))] rfl rfl ?_
            exact hn1 _ h
          · rw [if_neg c8] at h
            refine .condT rfl (bnotT (nb c8)) <| .seq <| .reg0 rfl (.op 0 rfl (asV rfl) <| .nil0) ?_
            have q3 := hr1 _ h
            replace q3 := q3.symm
            subst q3
            refine .kf [(4, i6 40)] rfl rfl ?_
            exact .ret rfl
        · rw [if_neg c7] at h
          refine .condF rfl (df c7) <| .exit rfl <| .keepL [] [] [] (by decide) (by decide) trivial trivial ?_
          exact hx1 _ h
    · rw [if_neg c2] at h
      refine .condT rfl (nt c2) <| .seq <| .reg0 rfl (.op 0 rfl (asV rfl) <| .nil0) ?_
      replace h := h.symm
      subst h
      refine .kf [(4, i6 40)] rfl rfl ?_
      exact .ret rfl
  · rw [if_neg c1] at h
    refine .condT rfl (nt c1) <| .seq <| .reg0 rfl (.op 0 rfl (mvV rfl) <| .op 0 rfl (asV rfl) <| .nil0) ?_
    replace h := h.symm
    subst h
    refine .kf [(4, i6 t2_1)] rfl rfl ?_
    exact .ret rfl
def weight_is.step (self76 : TSpace → TWeight → Bool → Prop) (a0 : TSpace) (a1 : TWeight) (r : Bool) : Prop :=
  if a1.Zero = true then (∃ t3_5 : Bool, (¬ (a0.Tag = 5) → weight_bare.f a1 0 t3_5) ∧ r = ((!(a0.Tag == 5)) && t3_5)) else (∃ t4_3 : Bool, (weight_bare.f a1 a0.Tag t4_3) ∧ if t4_3 = true then (if a0.Tag = 2 then (∃ t7_8 : Int, (¬ (a1.Cost = (-1)) → cost_Check.f a0.Dim a1.Cost t7_8) ∧ r = ((!(a1.Cost == (-1))) && (t7_8 == 0))) else (if a0.Tag = 3 then (∃ t9_4 : Int, (facts_Check.f a0.Dim a1.Facts t9_4) ∧ r = (t9_4 == 0)) else (if a0.Tag = 4 then (∃ t11_4 : Int, (cells_Check.f a0.Dim a1.Cells t11_4) ∧ r = (t11_4 == 0)) else (if a0.Tag = 5 then ((((a1.Parts.length : Int) = 2) → (InR 0 a0.Parts.length)) ∧ (((a1.Parts.length : Int) = 2) → (InR 0 a1.Parts.length)) ∧ ∃ t13_13 : Bool, (((a1.Parts.length : Int) = 2) → self76 (rdl a0.Parts 0) (rdl a1.Parts 0) t13_13) ∧ (((a1.Parts.length : Int) = 2) → (t13_13 = true) → (InR 1 a0.Parts.length)) ∧ (((a1.Parts.length : Int) = 2) → (t13_13 = true) → (InR 1 a1.Parts.length)) ∧ ∃ t13_24 : Bool, (((a1.Parts.length : Int) = 2) → (t13_13 = true) → self76 (rdl a0.Parts 1) (rdl a1.Parts 1) t13_24) ∧ r = (((a1.Parts.length : Int) == 2) && (t13_13 && t13_24))) else (r = true))))) else (r = false))
abbrev GD_A0 : List (List Nat) := [[], [0], [1, 0], [2, 1, 0], [3, 2, 1, 0], [4, 3, 2, 1, 0], [5, 4, 3, 2, 1, 0], [6, 5, 4, 3, 2, 1, 0], [7, 6, 5, 4, 3, 2, 1, 0], [4, 3, 2, 1, 0], [9, 4, 3, 2, 1, 0], [10, 9, 4, 3, 2, 1, 0], [11, 10, 9, 4, 3, 2, 1, 0], [8, 7, 6, 5, 4, 3, 2, 1, 0, 12, 11, 10, 9], [4, 3, 2, 1, 0, 13, 8, 7, 6, 5, 12, 11, 10, 9], [14, 4, 3, 2, 1, 0, 13, 8, 7, 6, 5, 12, 11, 10, 9], [15, 14, 4, 3, 2, 1, 0, 13, 8, 7, 6, 5, 12, 11, 10, 9], [16, 15, 14, 4, 3, 2, 1, 0, 13, 8, 7, 6, 5, 12, 11, 10, 9], [17, 16, 15, 14, 4, 3, 2, 1, 0, 13, 8, 7, 6, 5, 12, 11, 10, 9], [18, 17, 16, 15, 14, 4, 3, 2, 1, 0, 13, 8, 7, 6, 5, 12, 11, 10, 9], [15, 14, 4, 3, 2, 1, 0, 13, 8, 7, 6, 5, 12, 11, 10, 9], [20, 15, 14, 4, 3, 2, 1, 0, 13, 8, 7, 6, 5, 12, 11, 10, 9], [21, 20, 15, 14, 4, 3, 2, 1, 0, 13, 8, 7, 6, 5, 12, 11, 10, 9], [22, 21, 20, 15, 14, 4, 3, 2, 1, 0, 13, 8, 7, 6, 5, 12, 11, 10, 9], [19, 18, 17, 16, 15, 14, 4, 3, 2, 1, 0, 13, 8, 7, 6, 5, 12, 11, 10, 9, 23, 22, 21, 20], [15, 14, 4, 3, 2, 1, 0, 13, 8, 7, 6, 5, 12, 11, 10, 9, 24, 19, 18, 17, 16, 23, 22, 21, 20], [25, 15, 14, 4, 3, 2, 1, 0, 13, 8, 7, 6, 5, 12, 11, 10, 9, 24, 19, 18, 17, 16, 23, 22, 21, 20]]
theorem weight_is.stepD {self76 : TSpace → TWeight → Bool → Prop} {a0 : TSpace} {a1 : TWeight} (hs76 : ∀ z0_ z1_ r_, self76 z0_ z1_ r_ → D Tryz.prog X (.callH 76 [.agg (TSpace.lit z0_), .agg (TWeight.lit z1_)] [] (.val (.bool r_)) [])) {r : Bool} (h : weight_is.step self76 a0 a1 r) : D Tryz.prog X (.callH 76 [.agg (TSpace.lit a0), .agg (TWeight.lit a1)] [] (.val (.bool r)) []) := by
  unfold weight_is.step at h
  refine .enter 78 0 fn76 rfl rfl rfl <| .seq <| .room 0 <| .room 0 <| .reg0 rfl (.op 0 rfl (bxP (s := 3) (cs := (TSpace.lit a0)) rfl ⟨rfl, by decide, rfl⟩ rfl) <| .op 1 rfl (bxP (s := 6) (cs := (TWeight.lit a1)) rfl ⟨rfl, by decide, rfl⟩ rfl) <| .op 0 rfl (asV rfl) <| .nil0) <| .seq <| .seq <| .reg0 rfl (.op 0 rfl (faP fa39_0 rfl) <| .op 0 rfl (ldP rfl sz4 ag4 rfl) <| .nil0) ?_
  by_cases c1 : a1.Zero = true
  · rw [if_pos c1] at h
    refine .condT rfl c1 <| .seq ?_
    obtain ⟨t3_5, g3_5, h⟩ := h
    refine .reg0 (e1 := listEnv [(4, bo ((!(a0.Tag == 5)) && t3_5))]) (H1 := [⟨3, [(TSpace.lit a0)], 0, none⟩, ⟨6, [(TWeight.lit a1)], 0, none⟩]) rfl ?_ ?_
    · refine .o (faP fa25_0 rfl) <| .o (ldP rfl sz22 ag22 rfl) <| .o (neI rfl rfl) <| .m rfl <| ?_
      by_cases c2 : a0.Tag = 5
      · exact (.n rfl (nf c2) <| .n rfl (nf c2) <| .o (pkFV rfl (nf c2) rfl) <| .a rfl <| .nilL _ ⟨cB rfl (mAndF (bnotF (bt c2))), trivial⟩)
      · exact (.g rfl (nt c2) (ldG rfl sz39 ag39 rfl) <| .callI (gT rfl rfl rfl (nt c2)) (callee_of rfl go103 rfl) (.pure rfl rfl (weight_bare.D (g3_5 c2))) <| .o (pkTV rfl (nt c2) rfl) <| .a rfl <| .nilL _ ⟨cB rfl (mAndT (bnotT (bn c2)) rfl), trivial⟩)
    replace h := h.symm
    subst h
    refine .kf [(4, bo ((!(a0.Tag == 5)) && t3_5))] rfl rfl ?_
    exact .ret rfl
  · rw [if_neg c1] at h
    refine .condF rfl (nb c1) <| .skip <| .seq <| .seq ?_
    obtain ⟨t4_3, g4_3, h⟩ := h
    refine .reg0 rfl (.o (ldG rfl sz39 ag39 rfl) <| .o (faP fa25_0 rfl) <| .o (ldP rfl sz22 ag22 rfl) <| .c rfl go103 rfl rfl rfl (weight_bare.D g4_3) <| .o (notB rfl) <| .nil0) ?_
    by_cases c3 : t4_3 = true
    · rw [if_pos c3] at h
      refine .condF rfl (bnotF c3) <| .skip <| .seq <| .seq <| .reg0 rfl (.op 0 rfl (faP fa25_0 rfl) <| .op 0 rfl (ldP rfl sz22 ag22 rfl) <| .nil0) <| .block <| .seq <| .reg0 rfl (.op 0 rfl (eqI rfl rfl) <| .op 0 rfl (asV rfl) <| .nil0) ?_
      by_cases c4 : a0.Tag = 2
      · rw [if_pos c4] at h
        refine .condT rfl (bt c4) <| .seq ?_
        obtain ⟨t7_8, g7_8, h⟩ := h
        refine .reg0 (e1 := listEnv [(4, bo ((!(a1.Cost == (-1))) && (t7_8 == 0)))]) (H1 := [⟨3, [(TSpace.lit a0)], 0, none⟩, ⟨6, [(TWeight.lit a1)], 0, none⟩]) rfl ?_ ?_
        · refine .o (faP fa39_1 rfl) <| .o (ldP rfl sz3 ag3 rfl) <| .o (neI rfl rfl) <| .m rfl <| ?_
          by_cases c5 : a1.Cost = (-1)
          · exact (.n rfl (nf c5) <| .n rfl (nf c5) <| .n rfl (nf c5) <| .n rfl (nf c5) <| .n rfl (nf c5) <| .n rfl (nf c5) <| .o (pkFV rfl (nf c5) rfl) <| .a rfl <| .nilL _ ⟨cB rfl (mAndF (bnotF (bt c5))), trivial⟩)
          · exact (.g rfl (nt c5) (faP fa25_1 rfl) <| .g rfl (nt c5) (ldP rfl sz3 ag3 rfl) <| .g rfl (nt c5) (faP fa39_1 rfl) <| .g rfl (nt c5) (ldP rfl sz3 ag3 rfl) <| .callI (gT rfl rfl rfl (nt c5)) (callee_of rfl go104 rfl) (.pure rfl rfl (cost_Check.D (g7_8 c5))) <| .g rfl (nt c5) (eqI rfl rfl) <| .o (pkTV rfl (nt c5) rfl) <| .a rfl <| .nilL _ ⟨cB rfl (mAndT (bnotT (bn c5)) rfl), trivial⟩)
        replace h := h.symm
        subst h
        refine .kf [(4, bo ((!(a1.Cost == (-1))) && (t7_8 == 0)))] rfl rfl ?_
        exact .ret rfl
      · rw [if_neg c4] at h
        refine .condF rfl (bn c4) <| .seq <| .reg0 rfl (.op 0 rfl (eqI rfl rfl) <| .op 0 rfl (asV rfl) <| .nil0) ?_
        by_cases c6 : a0.Tag = 3
        · rw [if_pos c6] at h
          refine .condT rfl (bt c6) <| .seq ?_
          obtain ⟨t9_4, g9_4, h⟩ := h
          refine .reg0 rfl (.o (faP fa25_1 rfl) <| .o (ldP rfl sz3 ag3 rfl) <| .o (faP fa39_2 rfl) <| .o (ldG rfl sz35 ag35 rfl) <| .c rfl go105 rfl rfl rfl (facts_Check.D g9_4) <| .o (eqI rfl rfl) <| .a rfl <| .nil0) ?_
          replace h := h.symm
          subst h
          refine .kf [(4, bo (t9_4 == 0))] rfl rfl ?_
          exact .ret rfl
        · rw [if_neg c6] at h
          refine .condF rfl (bn c6) <| .seq <| .reg0 rfl (.op 0 rfl (eqI rfl rfl) <| .op 0 rfl (asV rfl) <| .nil0) ?_
          by_cases c7 : a0.Tag = 4
          · rw [if_pos c7] at h
            refine .condT rfl (bt c7) <| .seq ?_
            obtain ⟨t11_4, g11_4, h⟩ := h
            refine .reg0 rfl (.o (faP fa25_1 rfl) <| .o (ldP rfl sz3 ag3 rfl) <| .o (faP fa39_3 rfl) <| .o (ldP rfl sz36 ag36 rfl) <| .c rfl go106 rfl rfl rfl (cells_Check.D g11_4) <| .o (eqI rfl rfl) <| .a rfl <| .nil0) ?_
            replace h := h.symm
            subst h
            refine .kf [(4, bo (t11_4 == 0))] rfl rfl ?_
            exact .ret rfl
          · rw [if_neg c7] at h
            refine .condF rfl (bn c7) <| .seq <| .reg0 rfl (.op 0 rfl (eqI rfl rfl) <| .op 0 rfl (asV rfl) <| .nil0) ?_
            by_cases c8 : a0.Tag = 5
            · rw [if_pos c8] at h
              refine .condT rfl (bt c8) <| .seq ?_
              obtain ⟨g13_7, h⟩ := h
              obtain ⟨g13_11, h⟩ := h
              obtain ⟨t13_13, g13_13, h⟩ := h
              obtain ⟨g13_18, h⟩ := h
              obtain ⟨g13_22, h⟩ := h
              obtain ⟨t13_24, g13_24, h⟩ := h
              refine .reg1 (e1 := listEnv [(4, bo (((a1.Parts.length : Int) == 2) && (t13_13 && t13_24)))]) (H1 := [⟨3, [(TSpace.lit a0)], 0, none⟩, ⟨6, [(TWeight.lit a1)], 0, none⟩]) rfl ?_ ?_
              · by_cases c9 : (a1.Parts.length : Int) = 2
                · by_cases c10 : t13_13 = true
                  · exact .drawM [(26, 4, bo t13_24), (25, 77, bo t13_24), (24, 76, bo t13_24), (23, 75, .agg (TWeight.lit (rdl a1.Parts 1))), (22, 74, .cptr (TWeight.lit (rdl a1.Parts 1)) 0), (21, 73, .rows (a1.Parts.map TWeight.cells)), (20, 72, .ptr 1 1 6 0 5), (19, 71, .agg (TSpace.lit (rdl a0.Parts 1))), (18, 70, .cptr (TSpace.lit (rdl a0.Parts 1)) 0), (17, 69, .rows (a0.Parts.map TSpace.cells)), (16, 68, .ptr 0 1 3 0 2), (15, 67, bo t13_13), (14, 66, bo t13_13), (13, 65, bo t13_13), (12, 64, .agg (TWeight.lit (rdl a1.Parts 0))), (11, 63, .cptr (TWeight.lit (rdl a1.Parts 0)) 0), (10, 62, .rows (a1.Parts.map TWeight.cells)), (9, 61, .ptr 1 1 6 0 5), (8, 60, .agg (TSpace.lit (rdl a0.Parts 0))), (7, 59, .cptr (TSpace.lit (rdl a0.Parts 0)) 0), (6, 58, .rows (a0.Parts.map TSpace.cells)), (5, 57, .ptr 0 1 3 0 2), (4, 56, bo ((a1.Parts.length : Int) == 2)), (3, 55, bo ((a1.Parts.length : Int) == 2)), (2, 54, i6 (a1.Parts.length : Int)), (1, 53, .rows (a1.Parts.map TWeight.cells)), (0, 52, .ptr 1 1 6 0 5)] [] GD_A0 (by rfl) (by rfl) (by rfl) (by exact ⟨oP (fun _ => faP fa39_4 rfl) rfl, oP (fun _ => ldP rfl sz37 ag37 rfl) rfl, oP (fun _ => lnR (l := a1.Parts) sl37 rfl) rfl, oP (fun _ => eqI rfl rfl) rfl, oP (fun _ => mvV rfl) rfl, oG rfl (fun _ => rfl) (bt c9) (fun _ => faP fa25_2 rfl) rfl, oG rfl (fun _ => rfl) (bt c9) (fun _ => ldP rfl sz23 ag23 rfl) rfl, oG rfl (fun _ => rfl) (bt c9) (fun _ => ixR (l := a0.Parts) (lit := TSpace.lit) sl23 rfl rfl TSpace.cells_lit (g13_7 c9).1 (g13_7 c9).2) rfl, oG rfl (fun _ => rfl) (bt c9) (fun _ => ldCG rfl sz25 ag25 rfl) rfl, oG rfl (fun _ => rfl) (bt c9) (fun _ => faP fa39_4 rfl) rfl, oG rfl (fun _ => rfl) (bt c9) (fun _ => ldP rfl sz37 ag37 rfl) rfl, oG rfl (fun _ => rfl) (bt c9) (fun _ => ixR (l := a1.Parts) (lit := TWeight.lit) sl37 rfl rfl TWeight.cells_lit (g13_11 c9).1 (g13_11 c9).2) rfl, oG rfl (fun _ => rfl) (bt c9) (fun _ => ldCG rfl sz39 ag39 rfl) rfl, fun S hS hD hn => .oneI hS hD hn (gT rfl rfl rfl (bt c9)) rfl (callee_of rfl go76 rfl) (.pure rfl rfl (hs76 _ _ _ (g13_13 c9))) rfl rfl rfl, oP (fun _ => pkTV rfl (bt c9) rfl) rfl, oP (fun _ => mvV rfl) rfl, oG rfl (fun _ => rfl) c10 (fun _ => faP fa25_2 rfl) rfl, oG rfl (fun _ => rfl) c10 (fun _ => ldP rfl sz23 ag23 rfl) rfl, oG rfl (fun _ => rfl) c10 (fun _ => ixR (l := a0.Parts) (lit := TSpace.lit) sl23 rfl rfl TSpace.cells_lit (g13_18 c9 c10).1 (g13_18 c9 c10).2) rfl, oG rfl (fun _ => rfl) c10 (fun _ => ldCG rfl sz25 ag25 rfl) rfl, oG rfl (fun _ => rfl) c10 (fun _ => faP fa39_4 rfl) rfl, oG rfl (fun _ => rfl) c10 (fun _ => ldP rfl sz37 ag37 rfl) rfl, oG rfl (fun _ => rfl) c10 (fun _ => ixR (l := a1.Parts) (lit := TWeight.lit) sl37 rfl rfl TWeight.cells_lit (g13_22 c9 c10).1 (g13_22 c9 c10).2) rfl, oG rfl (fun _ => rfl) c10 (fun _ => ldCG rfl sz39 ag39 rfl) rfl, fun S hS hD hn => .oneI hS hD hn (gT rfl rfl rfl c10) rfl (callee_of rfl go76 rfl) (.pure rfl rfl (hs76 _ _ _ (g13_24 c9 c10))) rfl rfl rfl, oP (fun _ => pkTV rfl c10 rfl) rfl, oP (fun _ => asV rfl) rfl, trivial⟩) _ (by exact ⟨cB rfl (mAndT (bt c9) (mAndT c10 rfl)), trivial⟩) (by rfl)
                  · exact .drawM [(26, 4, bo false), (25, 77, bo false), (24, 76, und), (23, 75, und), (22, 74, und), (21, 73, und), (20, 72, und), (19, 71, und), (18, 70, und), (17, 69, und), (16, 68, und), (15, 67, bo t13_13), (14, 66, bo t13_13), (13, 65, bo t13_13), (12, 64, .agg (TWeight.lit (rdl a1.Parts 0))), (11, 63, .cptr (TWeight.lit (rdl a1.Parts 0)) 0), (10, 62, .rows (a1.Parts.map TWeight.cells)), (9, 61, .ptr 1 1 6 0 5), (8, 60, .agg (TSpace.lit (rdl a0.Parts 0))), (7, 59, .cptr (TSpace.lit (rdl a0.Parts 0)) 0), (6, 58, .rows (a0.Parts.map TSpace.cells)), (5, 57, .ptr 0 1 3 0 2), (4, 56, bo ((a1.Parts.length : Int) == 2)), (3, 55, bo ((a1.Parts.length : Int) == 2)), (2, 54, i6 (a1.Parts.length : Int)), (1, 53, .rows (a1.Parts.map TWeight.cells)), (0, 52, .ptr 1 1 6 0 5)] [] GD_A0 (by rfl) (by rfl) (by rfl) (by exact ⟨oP (fun _ => faP fa39_4 rfl) rfl, oP (fun _ => ldP rfl sz37 ag37 rfl) rfl, oP (fun _ => lnR (l := a1.Parts) sl37 rfl) rfl, oP (fun _ => eqI rfl rfl) rfl, oP (fun _ => mvV rfl) rfl, oG rfl (fun _ => rfl) (bt c9) (fun _ => faP fa25_2 rfl) rfl, oG rfl (fun _ => rfl) (bt c9) (fun _ => ldP rfl sz23 ag23 rfl) rfl, oG rfl (fun _ => rfl) (bt c9) (fun _ => ixR (l := a0.Parts) (lit := TSpace.lit) sl23 rfl rfl TSpace.cells_lit (g13_7 c9).1 (g13_7 c9).2) rfl, oG rfl (fun _ => rfl) (bt c9) (fun _ => ldCG rfl sz25 ag25 rfl) rfl, oG rfl (fun _ => rfl) (bt c9) (fun _ => faP fa39_4 rfl) rfl, oG rfl (fun _ => rfl) (bt c9) (fun _ => ldP rfl sz37 ag37 rfl) rfl, oG rfl (fun _ => rfl) (bt c9) (fun _ => ixR (l := a1.Parts) (lit := TWeight.lit) sl37 rfl rfl TWeight.cells_lit (g13_11 c9).1 (g13_11 c9).2) rfl, oG rfl (fun _ => rfl) (bt c9) (fun _ => ldCG rfl sz39 ag39 rfl) rfl, fun S hS hD hn => .oneI hS hD hn (gT rfl rfl rfl (bt c9)) rfl (callee_of rfl go76 rfl) (.pure rfl rfl (hs76 _ _ _ (g13_13 c9))) rfl rfl rfl, oP (fun _ => pkTV rfl (bt c9) rfl) rfl, oP (fun _ => mvV rfl) rfl, oN rfl (fun _ => rfl) (nb c10) rfl, oN rfl (fun _ => rfl) (nb c10) rfl, oN rfl (fun _ => rfl) (nb c10) rfl, oN rfl (fun _ => rfl) (nb c10) rfl, oN rfl (fun _ => rfl) (nb c10) rfl, oN rfl (fun _ => rfl) (nb c10) rfl, oN rfl (fun _ => rfl) (nb c10) rfl, oN rfl (fun _ => rfl) (nb c10) rfl, oN rfl (fun _ => rfl) (nb c10) rfl, oP (fun _ => pkFV rfl (nb c10) rfl) rfl, oP (fun _ => asV rfl) rfl, trivial⟩) _ (by exact ⟨cB rfl (mAndT (bt c9) (mAndF (nb c10))), trivial⟩) (by rfl)
                · exact .drawM [(26, 4, bo false), (25, 77, bo false), (24, 76, und), (23, 75, und), (22, 74, und), (21, 73, und), (20, 72, und), (19, 71, und), (18, 70, und), (17, 69, und), (16, 68, und), (15, 67, bo false), (14, 66, bo false), (13, 65, und), (12, 64, und), (11, 63, und), (10, 62, und), (9, 61, und), (8, 60, und), (7, 59, und), (6, 58, und), (5, 57, und), (4, 56, bo ((a1.Parts.length : Int) == 2)), (3, 55, bo ((a1.Parts.length : Int) == 2)), (2, 54, i6 (a1.Parts.length : Int)), (1, 53, .rows (a1.Parts.map TWeight.cells)), (0, 52, .ptr 1 1 6 0 5)] [] GD_A0 (by rfl) (by rfl) (by rfl) (by exact ⟨oP (fun _ => faP fa39_4 rfl) rfl, oP (fun _ => ldP rfl sz37 ag37 rfl) rfl, oP (fun _ => lnR (l := a1.Parts) sl37 rfl) rfl, oP (fun _ => eqI rfl rfl) rfl, oP (fun _ => mvV rfl) rfl, oN rfl (fun _ => rfl) (bn c9) rfl, oN rfl (fun _ => rfl) (bn c9) rfl, oN rfl (fun _ => rfl) (bn c9) rfl, oN rfl (fun _ => rfl) (bn c9) rfl, oN rfl (fun _ => rfl) (bn c9) rfl, oN rfl (fun _ => rfl) (bn c9) rfl, oN rfl (fun _ => rfl) (bn c9) rfl, oN rfl (fun _ => rfl) (bn c9) rfl, oN rfl (fun _ => rfl) (bn c9) rfl, oP (fun _ => pkFV rfl (bn c9) rfl) rfl, oP (fun _ => mvV rfl) rfl, oN rfl (fun _ => rfl) rfl rfl, oN rfl (fun _ => rfl) rfl rfl, oN rfl (fun _ => rfl) rfl rfl, oN rfl (fun _ => rfl) rfl rfl, oN rfl (fun _ => rfl) rfl rfl, oN rfl (fun _ => rfl) rfl rfl, oN rfl (fun _ => rfl) rfl rfl, oN rfl (fun _ => rfl) rfl rfl, oN rfl (fun _ => rfl) rfl rfl, oP (fun _ => pkFV rfl rfl rfl) rfl, oP (fun _ => asV rfl) rfl, trivial⟩) _ (by exact ⟨cB rfl (mAndF (bn c9)), trivial⟩) (by rfl)
              replace h := h.symm
              subst h
              refine .kf [(4, bo (((a1.Parts.length : Int) == 2) && (t13_13 && t13_24)))] rfl rfl ?_
              exact .ret rfl
            · rw [if_neg c8] at h
              refine .condF rfl (bn c8) <| .skip <| .inBlock <| .seq <| .reg0 rfl (.op 0 rfl (asV rfl) <| .nil0) ?_
              replace h := h.symm
              subst h
              refine .kf [(4, bo true)] rfl rfl ?_
              exact .ret rfl
    · rw [if_neg c3] at h
      refine .condT rfl (bnotT (nb c3)) <| .seq <| .reg0 rfl (.op 0 rfl (asV rfl) <| .nil0) ?_
      replace h := h.symm
      subst h
      refine .kf [(4, bo false)] rfl rfl ?_
      exact .ret rfl
def weight_is.fN : Nat → TSpace → TWeight → Bool → Prop
  | 0 => fun _ _ _ => False
  | n + 1 => weight_is.step (weight_is.fN n)
theorem weight_is.ND : ∀ (n : Nat) {a0 : TSpace} {a1 : TWeight} {r : Bool} (h : weight_is.fN n a0 a1 r), D Tryz.prog X (.callH 76 [.agg (TSpace.lit a0), .agg (TWeight.lit a1)] [] (.val (.bool r)) [])
  | 0, _, _, _, h => h.elim
  | n + 1, _, _, _, h => weight_is.stepD (fun _ _ _ h => weight_is.ND n h) h
def weight_is.f (a0 : TSpace) (a1 : TWeight) (r : Bool) : Prop := ∃ n, weight_is.fN n a0 a1 r
theorem weight_is.D {a0 a1 r} (h : weight_is.f a0 a1 r) : D Tryz.prog X (.callH 76 [.agg (TSpace.lit a0), .agg (TWeight.lit a1)] [] (.val (.bool r)) []) := by obtain ⟨n, h⟩ := h; exact weight_is.ND n h
def weight_checked_1.f (a0 : TWeight) (f0 : TSpace) (r : Bool) : Prop :=
  ∃ t2_2 : Bool, (weight_is.f f0 a0 t2_2) ∧ r = (!t2_2)
theorem weight_checked_1.D {a0 f0 r} (h : weight_checked_1.f a0 f0 r) : D Tryz.prog X (.callH 75 [.agg (TWeight.lit a0), .cptr (TSpace.lit f0) 0] [] (.val (.bool r)) []) := by
  unfold weight_checked_1.f at h
  refine .enter 8 0 fn75 rfl rfl rfl <| .seq <| .room 0 <| .reg0 rfl (.op 0 rfl (bxP (s := 6) (cs := (TWeight.lit a0)) rfl ⟨rfl, by decide, rfl⟩ rfl) <| .op 0 rfl (asV rfl) <| .nil0) <| .seq ?_
  obtain ⟨t2_2, g2_2, h⟩ := h
  refine .reg0 rfl (.o (ldCG rfl sz25 ag25 rfl) <| .o (ldG rfl sz39 ag39 rfl) <| .c rfl go76 rfl rfl rfl (weight_is.D g2_2) <| .o (notB rfl) <| .a rfl <| .nil0) ?_
  replace h := h.symm
  subst h
  refine .kf [(3, bo (!t2_2))] rfl rfl ?_
  exact .ret rfl
def weight_checked.f (a0 : TSpace) (a1 : List TWeight) (r : Int) : Prop :=
  ∃ t2_1 : Int, (weight_Space.f a0 t2_1) ∧ if t2_1 = 0 then (∃ t4_2 : Bool, (slices_ContainsFunc_Weight.f a1 (fun x0_ y_ => weight_checked_1.f x0_ a0 y_) t4_2) ∧ if t4_2 = true then (r = 51) else (r = 0)) else (r = t2_1)
theorem weight_checked.D {a0 a1 r} (h : weight_checked.f a0 a1 r) : D Tryz.prog X (.callH 52 [.agg (TSpace.lit a0), .rows (a1.map TWeight.cells)] [] (.val (.int .i64 r)) []) := by
  unfold weight_checked.f at h
  refine .enter 14 0 fn52 rfl rfl rfl <| .seq <| .room 0 <| .reg0 rfl (.op 0 rfl (bxP (s := 3) (cs := (TSpace.lit a0)) rfl ⟨rfl, by decide, rfl⟩ rfl) <| .op 0 rfl (asV rfl) <| .nil0) <| .seq <| .seq ?_
  obtain ⟨t2_1, g2_1, h⟩ := h
  refine .reg0 rfl (.o (ldG rfl sz25 ag25 rfl) <| .c rfl go49 rfl rfl rfl (weight_Space.D g2_1) <| .a rfl <| .nil0) <| .seq <| .reg0 rfl (.op 0 rfl (mvV rfl) <| .op 0 rfl (neI rfl rfl) <| .nil0) ?_
  by_cases c1 : t2_1 = 0
  · rw [if_pos c1] at h
    refine .condF rfl (nf c1) <| .skip <| .seq <| .seq ?_
    obtain ⟨t4_2, g4_2, h⟩ := h
    refine .reg0 rfl (.o (mvR rfl) <| .o (mkF rfl) <| .callI rfl (callee_of rfl go74 rfl) (.lendC (args' := [.rows (a1.map TWeight.cells), .clo 75 [.cptr (TSpace.lit a0) 0]])  [0] false (.cons (.free rfl rfl) <| .cons (cClo (.cons (cFixP rfl rfl (.cons (.free rfl rfl) <| .cons (.free rfl rfl) <| .cons (.free rfl rfl) <| .nil)) <| .nil)) <| .nil) (by decide) rfl rfl rfl rfl (slices_ContainsFunc_Weight.D (k1_ := [.cptr (TSpace.lit a0) 0]) go75 rfl rfl (fun x0_ y_ h_ => weight_checked_1.D h_) g4_2)) <| .nil0) ?_
    by_cases c2 : t4_2 = true
    · rw [if_pos c2] at h
      refine .condT rfl c2 <| .seq <| .reg0 rfl (.op 0 rfl (asV rfl) <| .nil0) ?_
      replace h := h.symm
      subst h
      refine .kf [(4, i6 51)] rfl rfl ?_
      exact .ret rfl
    · rw [if_neg c2] at h
      refine .condF rfl (nb c2) <| .skip <| .seq <| .reg0 rfl (.op 0 rfl (asV rfl) <| .nil0) ?_
      replace h := h.symm
      subst h
      refine .kf [(4, i6 0)] rfl rfl ?_
      exact .ret rfl
  · rw [if_neg c1] at h
    refine .condT rfl (nt c1) <| .seq <| .reg0 rfl (.op 0 rfl (mvV rfl) <| .op 0 rfl (asV rfl) <| .nil0) ?_
    replace h := h.symm
    subst h
    refine .kf [(4, i6 t2_1)] rfl rfl ?_
    exact .ret rfl
def weight_Check.f (a0 : TSpace) (a1 : TWeight) (r : Int) : Prop :=
  ∃ t2_3 : Int, (weight_checked.f a0 [a1] t2_3) ∧ r = t2_3
theorem weight_Check.D {a0 a1 r} (h : weight_Check.f a0 a1 r) : D Tryz.prog X (.callH 67 [.agg (TSpace.lit a0), .agg (TWeight.lit a1)] [] (.val (.int .i64 r)) []) := by
  unfold weight_Check.f at h
  refine .enter 9 0 fn67 rfl rfl rfl <| .seq <| .room 0 <| .room 0 <| .reg0 rfl (.op 0 rfl (bxP (s := 3) (cs := (TSpace.lit a0)) rfl ⟨rfl, by decide, rfl⟩ rfl) <| .op 1 rfl (bxP (s := 6) (cs := (TWeight.lit a1)) rfl ⟨rfl, by decide, rfl⟩ rfl) <| .op 0 rfl (asV rfl) <| .nil0) <| .seq ?_
  obtain ⟨t2_3, g2_3, h⟩ := h
  refine .room 0 <| .reg0 rfl (.op 0 rfl (ldG rfl sz25 ag25 rfl) <| .op 0 rfl (ldG rfl sz39 ag39 rfl) <| .op 2 rfl (bldT (s := 6) (cs := [bo a1.Zero, i6 a1.Cost, u6 a1.Facts.Gen, .rows (a1.Facts.Rows.map (cInt .u64)), .rows (a1.Cells.map TCell.cells), .rows (a1.Parts.map TWeight.cells)]) (cf := TWeight.cells) [a1] un37 sz39 ze39 ⟨by decide, rfl, by decide⟩ rfl rfl rfl (by simp only [List.map, TWeight.cells_lit]; rfl) rfl) <| .callI rfl (callee_of rfl go52 rfl) (.lendC (args' := [.agg (TSpace.lit a0), .rows ([a1].map TWeight.cells)])  [2] false (.cons (.free rfl rfl) <| .cons (cFixO (l := [a1]) sl37 rfl rfl rfl rfl) <| .nil) (by decide) rfl rfl rfl rfl (weight_checked.D g2_3)) <| .op 0 rfl (asV rfl) <| .nil0) ?_
  replace h := h.symm
  subst h
  refine .kf [(4, i6 t2_3)] rfl rfl ?_
  exact .ret rfl
def pds_Check.b1 (a0 : TPds) : Int → Rnd Int Unit Int → Prop := fun x1 z1 => if x1 < (a0.Rules.length : Int) then (((InR x1 a0.Rules.length)) ∧ ∃ t25_4 : Int, (weight_Check.f a0.Space ((rdl a0.Rules x1).F) t25_4) ∧ if t25_4 = 0 then (z1 = .next (IntKind.i64.wrap (x1 + 1))) else (z1 = .ret t25_4)) else (z1 = .exit ())
def pds_Check.f (a0 : TPds) (r : Int) : Prop :=
  ∃ t2_2 : Int, (weight_Space.f a0.Space t2_2) ∧ if t2_2 = 0 then (if (a0.Rules.length : Int) > 16384 then (r = 3) else (if ((decide (a0.States < 0)) || ((decide (a0.States > 4096)) || ((decide (a0.Symbols < 0)) || (decide (a0.Symbols > 4096))))) = true then (r = 110) else (∃ t8_3 : Bool, (slices_ContainsFunc_Rule.f a0.Rules (fun x0_ y_ => pds_Check_1.f x0_ a0 y_) t8_3) ∧ if t8_3 = true then (r = 110) else (∃ o1 : Fin Unit Int, Loop (pds_Check.b1 a0) 0 o1 ∧ o1.on (fun _ => r = 0) (fun r_ => r = r_))))) else (r = t2_2)
theorem pds_Check.D {a0 r} (h : pds_Check.f a0 r) : D Tryz.prog X (.callH 44 [.agg (TPds.lit a0)] [] (.val (.int .i64 r)) []) := by
  unfold pds_Check.f at h
  refine .enter 55 0 fn44 rfl rfl rfl <| .seq <| .room 0 <| .reg0 rfl (.op 0 rfl (bxP (s := 6) (cs := (TPds.lit a0)) rfl ⟨rfl, by decide, rfl⟩ rfl) <| .op 0 rfl (asV rfl) <| .nil0) <| .seq <| .seq ?_
  obtain ⟨t2_2, g2_2, h⟩ := h
  refine .reg0 rfl (.o (faP fa28_0 rfl) <| .o (ldG rfl sz25 ag25 rfl) <| .c rfl go49 rfl rfl rfl (weight_Space.D g2_2) <| .a rfl <| .nil0) <| .seq <| .reg0 rfl (.op 0 rfl (mvV rfl) <| .op 0 rfl (neI rfl rfl) <| .nil0) ?_
  by_cases c1 : t2_2 = 0
  · rw [if_pos c1] at h
    refine .condF rfl (nf c1) <| .skip <| .seq <| .seq <| .reg0 rfl (.op 0 rfl (faP fa28_3 rfl) <| .op 0 rfl (ldP rfl sz26 ag26 rfl) <| .op 0 rfl (lnR (l := a0.Rules) sl26 rfl) <| .op 0 rfl (gtI rfl rfl) <| .nil0) ?_
    by_cases c2 : (a0.Rules.length : Int) > 16384
    · rw [if_pos c2] at h
      refine .condT rfl (dt c2) <| .seq <| .reg0 rfl (.op 0 rfl (asV rfl) <| .nil0) ?_
      replace h := h.symm
      subst h
      refine .kf [(2, i6 3)] rfl rfl ?_
      exact .ret rfl
    · rw [if_neg c2] at h
      refine .condF rfl (df c2) <| .skip <| .seq <| .seq ?_
      refine .reg0 (e1 := listEnv [(1, .ptr 0 1 6 0 0), (34, bo ((decide (a0.States < 0)) || ((decide (a0.States > 4096)) || ((decide (a0.Symbols < 0)) || (decide (a0.Symbols > 4096))))))]) (H1 := [⟨6, [(TPds.lit a0)], 0, none⟩]) rfl ?_ ?_
      · refine .o (faP fa28_1 rfl) <| .o (ldP rfl sz3 ag3 rfl) <| .o (ltI rfl rfl) <| .m rfl <| ?_
        by_cases c3 : a0.States < 0
        · exact (.n rfl (dt c3) <| .n rfl (dt c3) <| .n rfl (dt c3) <| .o (pkTV rfl (dt c3) rfl) <| .m rfl <| .n rfl rfl <| .n rfl rfl <| .n rfl rfl <| .o (pkTV rfl rfl rfl) <| .m rfl <| .n rfl rfl <| .n rfl rfl <| .n rfl rfl <| .o (pkTV rfl rfl rfl) <| .nilL _ ⟨.ptr rfl, cB rfl (mOrT (dt c3)), trivial⟩)
        · refine .g rfl (df c3) (faP fa28_1 rfl) <| .g rfl (df c3) (ldP rfl sz3 ag3 rfl) <| .g rfl (df c3) (gtI rfl rfl) <| .o (pkFV rfl (df c3) rfl) <| .m rfl <| ?_
          by_cases c4 : a0.States > 4096
          · exact (.n rfl (dt c4) <| .n rfl (dt c4) <| .n rfl (dt c4) <| .o (pkTV rfl (dt c4) rfl) <| .m rfl <| .n rfl rfl <| .n rfl rfl <| .n rfl rfl <| .o (pkTV rfl rfl rfl) <| .nilL _ ⟨.ptr rfl, cB rfl (mOrF (df c3) (mOrT (dt c4))), trivial⟩)
          · refine .g rfl (df c4) (faP fa28_2 rfl) <| .g rfl (df c4) (ldP rfl sz3 ag3 rfl) <| .g rfl (df c4) (ltI rfl rfl) <| .o (pkFV rfl (df c4) rfl) <| .m rfl <| ?_
            by_cases c5 : a0.Symbols < 0
            · exact (.n rfl (dt c5) <| .n rfl (dt c5) <| .n rfl (dt c5) <| .o (pkTV rfl (dt c5) rfl) <| .nilL _ ⟨.ptr rfl, cB rfl (mOrF (df c3) (mOrF (df c4) (mOrT (dt c5)))), trivial⟩)
            · exact (.g rfl (df c5) (faP fa28_2 rfl) <| .g rfl (df c5) (ldP rfl sz3 ag3 rfl) <| .g rfl (df c5) (gtI rfl rfl) <| .o (pkFV rfl (df c5) rfl) <| .nilL _ ⟨.ptr rfl, cB rfl (mOrF (df c3) (mOrF (df c4) (mOrF (df c5) rfl))), trivial⟩)
      by_cases c6 : ((decide (a0.States < 0)) || ((decide (a0.States > 4096)) || ((decide (a0.Symbols < 0)) || (decide (a0.Symbols > 4096))))) = true
      · rw [if_pos c6] at h
        refine .condT rfl c6 <| .seq <| .reg0 rfl (.op 0 rfl (asV rfl) <| .nil0) ?_
        replace h := h.symm
        subst h
        refine .kf [(2, i6 110)] rfl rfl ?_
        exact .ret rfl
      · rw [if_neg c6] at h
        refine .condF rfl (nb c6) <| .skip <| .seq <| .seq ?_
        obtain ⟨t8_3, g8_3, h⟩ := h
        refine .reg0 rfl (.o (faP fa28_3 rfl) <| .o (ldP rfl sz26 ag26 rfl) <| .o (mkF rfl) <| .callI rfl (callee_of rfl go64 rfl) (.lendC (args' := [.rows (a0.Rules.map TRule.cells), .clo 65 [.cptr (TPds.lit a0) 0]])  [0] false (.cons (.free rfl rfl) <| .cons (cClo (.cons (cFixP rfl rfl (.cons (.free rfl rfl) <| .cons (.free rfl rfl) <| .cons (.free rfl rfl) <| .cons (.free rfl rfl) <| .cons (.free rfl rfl) <| .cons (.free rfl rfl) <| .nil)) <| .nil)) <| .nil) (by decide) rfl rfl rfl rfl (slices_ContainsFunc_Rule.D (k1_ := [.cptr (TPds.lit a0) 0]) go65 rfl rfl (fun x0_ y_ h_ => pds_Check_1.D h_) g8_3)) <| .nil0) ?_
        by_cases c7 : t8_3 = true
        · rw [if_pos c7] at h
          refine .condT rfl c7 <| .seq <| .reg0 rfl (.op 0 rfl (asV rfl) <| .nil0) ?_
          replace h := h.symm
          subst h
          refine .kf [(2, i6 110)] rfl rfl ?_
          exact .ret rfl
        · rw [if_neg c7] at h
          refine .condF rfl (nb c7) <| .skip <| .seq <| .seq <| .reg0 rfl (.op 0 rfl (faP fa28_3 rfl) <| .op 0 rfl (ldP rfl sz26 ag26 rfl) <| .op 0 rfl (lnR (l := a0.Rules) sl26 rfl) <| .op 0 rfl (mvV rfl) <| .nil0) <| .block <| .keepL [0] [(1, .ptr 0 1 6 0 0), (40, .rows (a0.Rules.map TRule.cells)), (41, i6 (a0.Rules.length : Int)), (42, i6 0)] [⟨6, [(TPds.lit a0)], 0, none⟩] (by decide) (by decide) ⟨.ptr rfl, .free rfl rfl, .free rfl rfl, .free rfl rfl, trivial⟩ ⟨⟨_, rfl, bcBox (all2_free rfl)⟩, trivial⟩ ?_
          obtain ⟨o1, hL1, h⟩ := h
          refine .loopB (pds_Check.b1 a0) (fun x1 => listEnv [(1, .ptr 0 1 6 0 0), (40, .rows (a0.Rules.map TRule.cells)), (41, i6 (a0.Rules.length : Int)), (42, i6 x1)]) (fun x1 => [⟨6, [(TPds.lit a0)], 0, none⟩]) (fun _ => listEnv []) (fun _ => []) hL1 (fun r_ => r = r_) ?_ ?_ ?_
          · rintro ⟨⟩ rfl
            try dsimp only [Fin.on] at h
            refine .seq <| .reg0 rfl (.op 0 rfl (asV rfl) <| .nil0) ?_
            replace h := h.symm
            subst h
            refine .kf [(2, i6 0)] rfl rfl ?_
            exact .ret rfl
          · rintro r_ rfl
            exact h
          · rintro x1 z1 h hn1 hx1 hr1
            dsimp only [pds_Check.b1] at h
            refine .seq <| .reg0 rfl (.op 0 rfl (ltI rfl rfl) <| .nil0) <| .seq ?_
            by_cases c12 : x1 < (a0.Rules.length : Int)
            · rw [if_pos c12] at h
              refine .condT rfl (dt c12) <| .skip <| .seq <| .block <| .seq ?_
              obtain ⟨g24_0, h⟩ := h
              refine .room 0 <| .reg0 rfl (.op 0 rfl (ixR (l := a0.Rules) (lit := TRule.lit) sl26 rfl rfl (fun _ => rfl) g24_0.1 g24_0.2) <| .op 0 rfl (ldCG rfl sz70 ag70 rfl) <| .op 1 rfl (alP (s := 10) ze70 ⟨rfl, by decide, rfl⟩ rfl) <| .op 0 rfl (stB (cs0 := GD_c0) (cs := (TRule.lit (rdl a0.Rules x1))) (cs1 := (TRule.lit (rdl a0.Rules x1))) rfl rfl sz70 rfl ⟨Nat.le_of_ble_eq_true rfl, rfl⟩ rfl) <| .nil0) ?_
              refine .seq ?_
              obtain ⟨t25_4, g25_4, h⟩ := h
              refine .reg0 rfl (.o (faP fa28_0 rfl) <| .o (ldG rfl sz25 ag25 rfl) <| .o (faP fa70_4 rfl) <| .o (ldG rfl sz39 ag39 rfl) <| .c rfl go67 rfl rfl rfl (weight_Check.D g25_4) <| .a rfl <| .nil0) <| .seq <| .reg0 rfl (.op 0 rfl (mvV rfl) <| .op 0 rfl (neI rfl rfl) <| .nil0) ?_
              by_cases c13 : t25_4 = 0
              · rw [if_pos c13] at h
                refine .condF rfl (nf c13) <| .skip <| .inBlock <| .reg0 rfl (.op 0 rfl (addI rfl rfl) <| .op 0 rfl (mvV rfl) <| .nil0) <| .keepL [0] [(1, .ptr 0 1 6 0 0), (40, .rows (a0.Rules.map TRule.cells)), (41, i6 (a0.Rules.length : Int)), (42, i6 (IntKind.i64.wrap (x1 + 1)))] [⟨6, [(TPds.lit a0)], 0, none⟩] (by decide) (by decide) ⟨.ptr rfl, .free rfl rfl, .free rfl rfl, .free rfl rfl, trivial⟩ ⟨⟨_, rfl, bcBox (all2_free rfl)⟩, trivial⟩ ?_
                exact hn1 _ h
              · rw [if_neg c13] at h
                refine .condT rfl (nt c13) <| .seq <| .reg0 rfl (.op 0 rfl (mvV rfl) <| .op 0 rfl (asV rfl) <| .nil0) ?_
                have q3 := hr1 _ h
                replace q3 := q3.symm
                subst q3
                refine .kf [(2, i6 t25_4)] rfl rfl ?_
                exact .ret rfl
            · rw [if_neg c12] at h
              refine .condF rfl (df c12) <| .exit rfl <| .keepL [] [] [] (by decide) (by decide) trivial trivial ?_
              exact hx1 _ h
  · rw [if_neg c1] at h
    refine .condT rfl (nt c1) <| .seq <| .reg0 rfl (.op 0 rfl (mvV rfl) <| .op 0 rfl (asV rfl) <| .nil0) ?_
    replace h := h.symm
    subst h
    refine .kf [(2, i6 t2_2)] rfl rfl ?_
    exact .ret rfl
def steps_Check.b1 (a0 : TPds) (a1 : TConf) : Int → Rnd Int Unit Int → Prop := fun x1 z1 => if x1 < (a1.W.length : Int) then (((InR x1 a1.W.length)) ∧ if ((decide ((rdl a1.W x1) < 0)) || (decide ((rdl a1.W x1) ≥ a0.Symbols))) = true then (z1 = .ret 120) else (z1 = .next (IntKind.i64.wrap (x1 + 1)))) else (z1 = .exit ())
def steps_Check.f (a0 : TPds) (a1 : TConf) (r : Int) : Prop :=
  ∃ t2_1 : Int, (pds_Check.f a0 t2_1) ∧ if t2_1 = 0 then (if ((decide (a1.P < 0)) || ((decide (a1.P ≥ a0.States)) || (decide ((a1.W.length : Int) > 4096)))) = true then (r = 120) else (∃ o1 : Fin Unit Int, Loop (steps_Check.b1 a0 a1) 0 o1 ∧ o1.on (fun _ => r = 0) (fun r_ => r = r_))) else (r = t2_1)
theorem steps_Check.D {a0 a1 r} (h : steps_Check.f a0 a1 r) : D Tryz.prog X (.callH 20 [.agg (TPds.lit a0), .agg (TConf.lit a1)] [] (.val (.int .i64 r)) []) := by
  unfold steps_Check.f at h
  refine .enter 45 0 fn20 rfl rfl rfl <| .seq <| .room 0 <| .room 0 <| .reg0 rfl (.op 0 rfl (bxP (s := 6) (cs := (TPds.lit a0)) rfl ⟨rfl, by decide, rfl⟩ rfl) <| .op 1 rfl (bxP (s := 2) (cs := (TConf.lit a1)) rfl ⟨rfl, by decide, rfl⟩ rfl) <| .op 0 rfl (asV rfl) <| .nil0) <| .seq <| .seq ?_
  obtain ⟨t2_1, g2_1, h⟩ := h
  refine .reg0 rfl (.o (ldG rfl sz28 ag28 rfl) <| .c rfl go44 rfl rfl rfl (pds_Check.D g2_1) <| .a rfl <| .nil0) <| .seq <| .reg0 rfl (.op 0 rfl (mvV rfl) <| .op 0 rfl (neI rfl rfl) <| .nil0) ?_
  by_cases c1 : t2_1 = 0
  · rw [if_pos c1] at h
    refine .condF rfl (nf c1) <| .skip <| .seq <| .seq ?_
    refine .reg0 (e1 := listEnv [(2, .ptr 0 1 6 0 0), (3, .ptr 1 1 2 0 0), (28, bo ((decide (a1.P < 0)) || ((decide (a1.P ≥ a0.States)) || (decide ((a1.W.length : Int) > 4096)))))]) (H1 := [⟨6, [(TPds.lit a0)], 0, none⟩, ⟨2, [(TConf.lit a1)], 0, none⟩]) rfl ?_ ?_
    · refine .o (faP fa31_0 rfl) <| .o (ldP rfl sz3 ag3 rfl) <| .o (ltI rfl rfl) <| .m rfl <| ?_
      by_cases c2 : a1.P < 0
      · exact (.n rfl (dt c2) <| .n rfl (dt c2) <| .n rfl (dt c2) <| .n rfl (dt c2) <| .n rfl (dt c2) <| .o (pkTV rfl (dt c2) rfl) <| .m rfl <| .n rfl rfl <| .n rfl rfl <| .n rfl rfl <| .n rfl rfl <| .o (pkTV rfl rfl rfl) <| .nilL _ ⟨.ptr rfl, .ptr rfl, cB rfl (mOrT (dt c2)), trivial⟩)
      · refine .g rfl (df c2) (faP fa31_0 rfl) <| .g rfl (df c2) (ldP rfl sz3 ag3 rfl) <| .g rfl (df c2) (faP fa28_1 rfl) <| .g rfl (df c2) (ldP rfl sz3 ag3 rfl) <| .g rfl (df c2) (geI rfl rfl) <| .o (pkFV rfl (df c2) rfl) <| .m rfl <| ?_
        by_cases c3 : a1.P ≥ a0.States
        · exact (.n rfl (dt c3) <| .n rfl (dt c3) <| .n rfl (dt c3) <| .n rfl (dt c3) <| .o (pkTV rfl (dt c3) rfl) <| .nilL _ ⟨.ptr rfl, .ptr rfl, cB rfl (mOrF (df c2) (mOrT (dt c3))), trivial⟩)
        · exact (.g rfl (df c3) (faP fa31_1 rfl) <| .g rfl (df c3) (ldP rfl sz29 ag29 rfl) <| .g rfl (df c3) (lnR (l := a1.W) sl29 rfl) <| .g rfl (df c3) (gtI rfl rfl) <| .o (pkFV rfl (df c3) rfl) <| .nilL _ ⟨.ptr rfl, .ptr rfl, cB rfl (mOrF (df c2) (mOrF (df c3) rfl)), trivial⟩)
    by_cases c4 : ((decide (a1.P < 0)) || ((decide (a1.P ≥ a0.States)) || (decide ((a1.W.length : Int) > 4096)))) = true
    · rw [if_pos c4] at h
      refine .condT rfl c4 <| .seq <| .reg0 rfl (.op 0 rfl (asV rfl) <| .nil0) ?_
      replace h := h.symm
      subst h
      refine .kf [(4, i6 120)] rfl rfl ?_
      exact .ret rfl
    · rw [if_neg c4] at h
      refine .condF rfl (nb c4) <| .skip <| .seq <| .seq <| .reg0 rfl (.op 0 rfl (faP fa31_1 rfl) <| .op 0 rfl (ldP rfl sz29 ag29 rfl) <| .op 0 rfl (lnR (l := a1.W) sl29 rfl) <| .op 0 rfl (mvV rfl) <| .nil0) <| .block <| .keepL [0] [(2, .ptr 0 1 6 0 0), (30, .rows (a1.W.map (cInt .i64))), (31, i6 (a1.W.length : Int)), (32, i6 0)] [⟨6, [(TPds.lit a0)], 0, none⟩] (by decide) (by decide) ⟨.ptr rfl, .free rfl rfl, .free rfl rfl, .free rfl rfl, trivial⟩ ⟨⟨_, rfl, bcBox (all2_free rfl)⟩, trivial⟩ ?_
      obtain ⟨o1, hL1, h⟩ := h
      refine .loopB (steps_Check.b1 a0 a1) (fun x1 => listEnv [(2, .ptr 0 1 6 0 0), (30, .rows (a1.W.map (cInt .i64))), (31, i6 (a1.W.length : Int)), (32, i6 x1)]) (fun x1 => [⟨6, [(TPds.lit a0)], 0, none⟩]) (fun _ => listEnv []) (fun _ => []) hL1 (fun r_ => r = r_) ?_ ?_ ?_
      · rintro ⟨⟩ rfl
        try dsimp only [Fin.on] at h
        refine .seq <| .reg0 rfl (.op 0 rfl (asV rfl) <| .nil0) ?_
        replace h := h.symm
        subst h
        refine .kf [(4, i6 0)] rfl rfl ?_
        exact .ret rfl
      · rintro r_ rfl
        exact h
      · rintro x1 z1 h hn1 hx1 hr1
        dsimp only [steps_Check.b1] at h
        refine .seq <| .reg0 rfl (.op 0 rfl (ltI rfl rfl) <| .nil0) <| .seq ?_
        by_cases c11 : x1 < (a1.W.length : Int)
        · rw [if_pos c11] at h
          refine .condT rfl (dt c11) <| .skip <| .seq <| .block <| .seq ?_
          obtain ⟨g18_0, h⟩ := h
          refine .reg0 rfl (.o (ixR (l := a1.W) (lit := (cInt .i64)) sl29 rfl rfl (fun _ => rfl) g18_0.1 g18_0.2) <| .o (ldC rfl sz3 ag3 rfl) <| .a rfl <| .nil0) <| .seq ?_
          refine .reg0 (e1 := listEnv [(2, .ptr 0 1 6 0 0), (30, .rows (a1.W.map (cInt .i64))), (31, i6 (a1.W.length : Int)), (32, i6 x1), (43, bo ((decide ((rdl a1.W x1) < 0)) || (decide ((rdl a1.W x1) ≥ a0.Symbols))))]) (H1 := [⟨6, [(TPds.lit a0)], 0, none⟩]) rfl ?_ ?_
          · refine .m rfl <| .o (ltI rfl rfl) <| .m rfl <| ?_
            by_cases c12 : (rdl a1.W x1) < 0
            · exact (.n rfl (dt c12) <| .n rfl (dt c12) <| .n rfl (dt c12) <| .n rfl (dt c12) <| .o (pkTV rfl (dt c12) rfl) <| .nilL _ ⟨.ptr rfl, .free rfl rfl, .free rfl rfl, .free rfl rfl, cB rfl (mOrT (dt c12)), trivial⟩)
            · exact (.g rfl (df c12) (mvV rfl) <| .g rfl (df c12) (faP fa28_2 rfl) <| .g rfl (df c12) (ldP rfl sz3 ag3 rfl) <| .g rfl (df c12) (geI rfl rfl) <| .o (pkFV rfl (df c12) rfl) <| .nilL _ ⟨.ptr rfl, .free rfl rfl, .free rfl rfl, .free rfl rfl, cB rfl (mOrF (df c12) rfl), trivial⟩)
          by_cases c13 : ((decide ((rdl a1.W x1) < 0)) || (decide ((rdl a1.W x1) ≥ a0.Symbols))) = true
          · rw [if_pos c13] at h
            refine .condT rfl c13 <| .seq <| .reg0 rfl (.op 0 rfl (asV rfl) <| .nil0) ?_
            have q3 := hr1 _ h
            replace q3 := q3.symm
            subst q3
            refine .kf [(4, i6 120)] rfl rfl ?_
            exact .ret rfl
          · rw [if_neg c13] at h
            refine .condF rfl (nb c13) <| .skip <| .inBlock <| .reg0 rfl (.op 0 rfl (addI rfl rfl) <| .op 0 rfl (mvV rfl) <| .nil0) <| .keepL [0] [(2, .ptr 0 1 6 0 0), (30, .rows (a1.W.map (cInt .i64))), (31, i6 (a1.W.length : Int)), (32, i6 (IntKind.i64.wrap (x1 + 1)))] [⟨6, [(TPds.lit a0)], 0, none⟩] (by decide) (by decide) ⟨.ptr rfl, .free rfl rfl, .free rfl rfl, .free rfl rfl, trivial⟩ ⟨⟨_, rfl, bcBox (all2_free rfl)⟩, trivial⟩ ?_
            exact hn1 _ h
        · rw [if_neg c11] at h
          refine .condF rfl (df c11) <| .exit rfl <| .keepL [] [] [] (by decide) (by decide) trivial trivial ?_
          exact hx1 _ h
  · rw [if_neg c1] at h
    refine .condT rfl (nt c1) <| .seq <| .reg0 rfl (.op 0 rfl (mvV rfl) <| .op 0 rfl (asV rfl) <| .nil0) ?_
    replace h := h.symm
    subst h
    refine .kf [(4, i6 t2_1)] rfl rfl ?_
    exact .ret rfl
def slices_Grow_int_o0.f (a1 : Int) (r : (List Int)) : Prop := (0 ≤ a1 ∧ Fits a1 8) ∧ r = []
theorem slices_Grow_int_o0.D {a1 r} (h : slices_Grow_int_o0.f a1 r) : D Tryz.prog X (.callH 73 [.val (.slice none 0 0), .val (.int .i64 a1)] [] (.own 0 r.length) [⟨1, r.map (cInt .i64), 0, none⟩]) := .ext (x_grow h)
def slices_Concat_int.b1 (a0 : List (List Int)) : (Int × Int) → Rnd ((Int × Int)) Int ((List Int)) → Prop := fun (x1, x2) z1 => if x2 < (a0.length : Int) then (((InR x2 a0.length)) ∧ if (IntKind.i64.wrap (x1 + ((rdl a0 x2).length : Int))) < 0 then (False) else (z1 = .next ((IntKind.i64.wrap (x1 + ((rdl a0 x2).length : Int))), (IntKind.i64.wrap (x2 + 1))))) else (z1 = .exit x1)
def slices_Concat_int.b2 (a0 : List (List Int)) : ((List Int) × Int) → Rnd (((List Int) × Int)) ((List Int)) ((List Int)) → Prop := fun (x4, x5) z2 => if x5 < (a0.length : Int) then (((InR x5 a0.length)) ∧ ((Fits (x4.length + (rdl a0 x5).length) 8)) ∧ z2 = .next ((x4 ++ (rdl a0 x5)), (IntKind.i64.wrap (x5 + 1)))) else (z2 = .exit x4)
def slices_Concat_int.f (a0 : List (List Int)) (r : (List Int)) : Prop :=
  ∃ o1 : Fin Int ((List Int)), Loop (slices_Concat_int.b1 a0) (0, 0) o1 ∧ o1.on (fun x3 => ∃ t28_1 : (List Int), (slices_Grow_int_o0.f x3 t28_1) ∧ ∃ o2 : Fin ((List Int)) ((List Int)), Loop (slices_Concat_int.b2 a0) (t28_1, 0) o2 ∧ o2.on (fun x6 => r = x6) (fun r_ => r = r_)) (fun r_ => r = r_)
theorem slices_Concat_int.D {a0 r} (h : slices_Concat_int.f a0 r) : D Tryz.prog X (.callH 51 [.rows (a0.map (cSl (cInt .i64)))] [] (.rows (r.map (cInt .i64))) []) := by
  unfold slices_Concat_int.f at h
  refine .enter 36 0 fn51 rfl rfl rfl <| .seq <| .reg0 rfl (.op 0 rfl (asV rfl) <| .nil0) <| .seq <| .reg0 rfl (.op 0 rfl (asV rfl) <| .nil0) <| .seq <| .seq <| .reg0 rfl (.op 0 rfl (mvR rfl) <| .op 0 rfl (lnR (l := a0) sl125 rfl) <| .op 0 rfl (mvV rfl) <| .nil0) <| .block <| .keepL [] [(0, .rows (a0.map (cSl (cInt .i64)))), (3, i6 0), (9, .rows (a0.map (cSl (cInt .i64)))), (10, i6 (a0.length : Int)), (11, i6 0)] [] (by decide) (by decide) ⟨.free rfl rfl, .free rfl rfl, .free rfl rfl, .free rfl rfl, .free rfl rfl, trivial⟩ trivial ?_
  obtain ⟨o1, hL1, h⟩ := h
  refine .loopB (slices_Concat_int.b1 a0) (fun (x1, x2) => listEnv [(0, .rows (a0.map (cSl (cInt .i64)))), (3, i6 x1), (9, .rows (a0.map (cSl (cInt .i64)))), (10, i6 (a0.length : Int)), (11, i6 x2)]) (fun (x1, x2) => []) (fun x3 => listEnv [(0, .rows (a0.map (cSl (cInt .i64)))), (3, i6 x3)]) (fun x3 => []) hL1 (fun r_ => r = r_) ?_ ?_ ?_
  · rintro x3 rfl
    try dsimp only [Fin.on] at h
    refine .seq ?_
    obtain ⟨t28_1, g28_1, h⟩ := h
    refine .room 0 <| .reg0 rfl (.op 0 rfl (mvV rfl) <| .callI rfl (callee_of rfl go73 rfl) (.focus (args' := [nul, i6 x3]) (H0 := []) (Hc := [⟨1, t28_1.map (cInt .i64), 0, none⟩]) (Hd := [⟨1, t28_1.map (cInt .i64), 0, none⟩]) [] [] [0] false (.cons (.free rfl rfl) <| .cons (.free rfl rfl) <| .nil) (HConvL.heap trivial) (by decide) rfl rfl (slices_Grow_int_o0.D g28_1) (.own rfl) (.cons (bcRow (l := t28_1) sl29 (Nat.le_refl _) rfl) <| .nil) rfl (.inr (.inl rfl)) rfl) <| .op 0 rfl (asO rfl) <| .nil0) ?_
    refine .seq <| .seq <| .reg0 rfl (.op 0 rfl (mvR rfl) <| .op 0 rfl (lnR (l := a0) sl125 rfl) <| .op 0 rfl (mvV rfl) <| .nil0) <| .block <| .keepL [0] [(6, .own 0 t28_1.length), (25, .rows (a0.map (cSl (cInt .i64)))), (26, i6 (a0.length : Int)), (27, i6 0)] [⟨1, t28_1.map (cInt .i64), 0, none⟩] (by decide) (by decide) ⟨.own rfl, .free rfl rfl, .free rfl rfl, .free rfl rfl, trivial⟩ ⟨⟨_, rfl, bcRow (l := t28_1) sl29 (Nat.le_refl _) rfl⟩, trivial⟩ ?_
    obtain ⟨o2, hL2, h⟩ := h
    refine .loopB (slices_Concat_int.b2 a0) (fun (x4, x5) => listEnv [(6, .own 0 x4.length), (25, .rows (a0.map (cSl (cInt .i64)))), (26, i6 (a0.length : Int)), (27, i6 x5)]) (fun (x4, x5) => [⟨1, x4.map (cInt .i64), 0, none⟩]) (fun x6 => listEnv [(6, .own 0 x6.length)]) (fun x6 => [⟨1, x6.map (cInt .i64), 0, none⟩]) hL2 (fun r_ => r = r_) ?_ ?_ ?_
    · rintro x6 rfl
      try dsimp only [Fin.on] at h
      refine .seq <| .reg0 rfl (.op 0 rfl (mvO rfl) <| .op 0 rfl (asO rfl) <| .nil0) ?_
      replace h := h.symm
      subst h
      refine .k [(2, .rows (x6.map (cInt .i64)))] ⟨cFixO (l := x6) sl29 rfl rfl rfl rfl, trivial⟩ ?_
      exact .ret rfl
    · rintro r_ rfl
      exact h
    · rintro ⟨x4, x5⟩ z2 h hn2 hx2 hr2
      dsimp only [slices_Concat_int.b2] at h
      refine .seq <| .reg0 rfl (.op 0 rfl (ltI rfl rfl) <| .nil0) <| .seq ?_
      by_cases c18 : x5 < (a0.length : Int)
      · rw [if_pos c18] at h
        refine .condT rfl (dt c18) <| .skip <| .seq <| .block <| .seq ?_
        obtain ⟨g39_0, h⟩ := h
        refine .reg0 rfl (.o (ixR (l := a0) (lit := (cSl (cInt .i64))) sl125 rfl rfl (fun _ => rfl) g39_0.1 g39_0.2) <| .o (ldC rfl sz29 ag29 rfl) <| .o (asR rfl) <| .nil0) ?_
        obtain ⟨g40_2, h⟩ := h
        refine .room 0 <| .reg0 rfl (.op 0 rfl (mvO rfl) <| .op 0 rfl (mvR rfl) <| .op 0 rfl (apL (l := x4) (rdl a0 x5) sl29 rfl rfl rfl (Nat.zero_le _) rfl g40_2) <| .op 0 rfl (asO rfl) <| .nil0) <| .inBlock <| .reg0 rfl (.op 0 rfl (addI rfl rfl) <| .op 0 rfl (mvV rfl) <| .nil0) <| .keepL [0] [(6, .own 0 ((x4 ++ (rdl a0 x5)).length)), (25, .rows (a0.map (cSl (cInt .i64)))), (26, i6 (a0.length : Int)), (27, i6 (IntKind.i64.wrap (x5 + 1)))] [⟨1, (x4 ++ (rdl a0 x5)).map (cInt .i64), 0, none⟩] (by decide) (by decide) ⟨.own rfl, .free rfl rfl, .free rfl rfl, .free rfl rfl, trivial⟩ ⟨⟨_, rfl, bcRow (l := (x4 ++ (rdl a0 x5))) sl29 (Nat.le_refl _) rfl⟩, trivial⟩ ?_
        exact hn2 _ h
      · rw [if_neg c18] at h
        refine .condF rfl (df c18) <| .exit rfl <| .keepL [0] [(6, .own 0 x4.length)] [⟨1, x4.map (cInt .i64), 0, none⟩] (by decide) (by decide) ⟨.own rfl, trivial⟩ ⟨⟨_, rfl, bcRow (l := x4) sl29 (Nat.le_refl _) rfl⟩, trivial⟩ ?_
        exact hx2 _ h
  · rintro r_ rfl
    exact h
  · rintro ⟨x1, x2⟩ z1 h hn1 hx1 hr1
    dsimp only [slices_Concat_int.b1] at h
    refine .seq <| .reg0 rfl (.op 0 rfl (ltI rfl rfl) <| .nil0) <| .seq ?_
    by_cases c11 : x2 < (a0.length : Int)
    · rw [if_pos c11] at h
      refine .condT rfl (dt c11) <| .skip <| .seq <| .block <| .seq ?_
      obtain ⟨g24_0, h⟩ := h
      refine .reg0 rfl (.o (ixR (l := a0) (lit := (cSl (cInt .i64))) sl125 rfl rfl (fun _ => rfl) g24_0.1 g24_0.2) <| .o (ldC rfl sz29 ag29 rfl) <| .o (asR rfl) <| .nil0) <| .seq <| .reg0 rfl (.op 0 rfl (mvV rfl) <| .op 0 rfl (mvR rfl) <| .op 0 rfl (lnR (l := (rdl a0 x2)) sl29 rfl) <| .op 0 rfl (addI rfl rfl) <| .op 0 rfl (asV rfl) <| .nil0) <| .seq <| .reg0 rfl (.op 0 rfl (mvV rfl) <| .op 0 rfl (ltI rfl rfl) <| .nil0) ?_
      by_cases c15 : (IntKind.i64.wrap (x1 + ((rdl a0 x2).length : Int))) < 0
      · rw [if_pos c15] at h
        refine .condT rfl (dt c15) ?_
        exact h.elim
      · rw [if_neg c15] at h
        refine .condF rfl (df c15) <| .skip <| .inBlock <| .reg0 rfl (.op 0 rfl (addI rfl rfl) <| .op 0 rfl (mvV rfl) <| .nil0) <| .kf [(0, .rows (a0.map (cSl (cInt .i64)))), (3, i6 (IntKind.i64.wrap (x1 + ((rdl a0 x2).length : Int)))), (9, .rows (a0.map (cSl (cInt .i64)))), (10, i6 (a0.length : Int)), (11, i6 (IntKind.i64.wrap (x2 + 1)))] rfl rfl ?_
        exact hn1 _ h
    · rw [if_neg c11] at h
      refine .condF rfl (df c11) <| .exit rfl <| .keepL [] [(0, .rows (a0.map (cSl (cInt .i64)))), (3, i6 x1)] [] (by decide) (by decide) ⟨.free rfl rfl, .free rfl rfl, trivial⟩ trivial ?_
      exact hx1 _ h
def steps_next.f (a0 : TRule) (a1 : TConf) (r : TConf × Bool × Int) : Prop :=
  ((a1.P = a0.P) → ¬ ((a1.W.length : Int) = 0) → (InR 0 a1.W.length)) ∧ if ((!(a1.P == a0.P)) || (((a1.W.length : Int) == 0) || ((rdl a1.W 0) != a0.G))) = true then (r = (a1, false, 0)) else (if (IntKind.i64.wrap ((IntKind.i64.wrap ((a1.W.length : Int) - 1)) + (a0.W.length : Int))) > 4096 then (r = (a1, true, 2)) else (((Cut 1 (a1.W.length : Int) a1.W.length)) ∧ ∃ t6_8 : (List Int), (slices_Concat_int.f [a0.W, (cutl a1.W 1 (a1.W.length : Int))] t6_8) ∧ r = ((TConf.mk a0.Q t6_8), true, 0)))
abbrev GD_A1 : List (List Nat) := [[], [0], [], [2], [1, 0, 3, 2], [4, 1, 0, 3, 2], [5, 4, 1, 0, 3, 2], [6, 5, 4, 1, 0, 3, 2], [7, 6, 5, 4, 1, 0, 3, 2], [8, 7, 6, 5, 4, 1, 0, 3, 2], [5, 4, 1, 0, 3, 2, 9, 8, 7, 6], [10, 5, 4, 1, 0, 3, 2, 9, 8, 7, 6], [11, 10, 5, 4, 1, 0, 3, 2, 9, 8, 7, 6], [12, 11, 10, 5, 4, 1, 0, 3, 2, 9, 8, 7, 6], [13, 12, 11, 10, 5, 4, 1, 0, 3, 2, 9, 8, 7, 6], [14, 13, 12, 11, 10, 5, 4, 1, 0, 3, 2, 9, 8, 7, 6], [11, 10, 5, 4, 1, 0, 3, 2, 9, 8, 7, 6], [16, 11, 10, 5, 4, 1, 0, 3, 2, 9, 8, 7, 6], [15, 14, 13, 12, 11, 10, 5, 4, 1, 0, 3, 2, 9, 8, 7, 6, 17, 16], [11, 10, 5, 4, 1, 0, 3, 2, 9, 8, 7, 6, 18, 15, 14, 13, 12, 17, 16]]
theorem steps_next.D {a0 a1 r} (h : steps_next.f a0 a1 r) : D Tryz.prog X (.callH 28 [.agg (TRule.lit a0), .agg (TConf.lit a1)] [] (.tuple [.agg (TConf.lit r.1), .val (.bool r.2.1), .val (.int .i64 r.2.2)]) []) := by
  unfold steps_next.f at h
  refine .enter 48 0 fn28 rfl rfl rfl <| .seq <| .room 0 <| .room 0 <| .room 0 <| .reg0 rfl (.op 0 rfl (bxP (s := 10) (cs := (TRule.lit a0)) rfl ⟨rfl, by decide, rfl⟩ rfl) <| .op 1 rfl (bxP (s := 2) (cs := (TConf.lit a1)) rfl ⟨rfl, by decide, rfl⟩ rfl) <| .op 2 rfl (alP (s := 2) ze31 ⟨rfl, by decide, rfl⟩ rfl) <| .op 0 rfl (asV rfl) <| .op 0 rfl (asV rfl) <| .nil0) <| .seq <| .seq ?_
  obtain ⟨g2_14, h⟩ := h
  refine .reg1 (e1 := listEnv [(2, .ptr 0 1 10 0 0), (3, .ptr 1 1 2 0 0), (4, .ptr 2 1 2 0 0), (26, bo ((!(a1.P == a0.P)) || (((a1.W.length : Int) == 0) || ((rdl a1.W 0) != a0.G))))]) (H1 := [⟨10, [(TRule.lit a0)], 0, none⟩, ⟨2, [(TConf.lit a1)], 0, none⟩, ⟨2, [[i6 0, nul]], 0, none⟩]) rfl ?_ ?_
  · by_cases c1 : a1.P = a0.P
    · by_cases c2 : (a1.W.length : Int) = 0
      · exact .drawM [(19, 26, bo true), (18, 25, und), (17, 24, und), (16, 23, und), (15, 22, und), (14, 21, und), (13, 20, und), (12, 19, und), (11, 18, bo ((a1.W.length : Int) == 0)), (10, 17, bo ((a1.W.length : Int) == 0)), (9, 16, bo ((a1.W.length : Int) == 0)), (8, 15, i6 (a1.W.length : Int)), (7, 14, .rows (a1.W.map (cInt .i64))), (6, 13, .ptr 1 1 2 0 1), (5, 12, bo (a1.P != a0.P)), (4, 11, bo (a1.P != a0.P)), (3, 10, i6 a0.P), (2, 9, .ptr 0 1 10 0 0), (1, 8, i6 a1.P), (0, 7, .ptr 1 1 2 0 0)] [] GD_A1 (by rfl) (by rfl) (by rfl) (by exact ⟨oP (fun _ => faP fa31_0 rfl) rfl, oP (fun _ => ldP rfl sz3 ag3 rfl) rfl, oP (fun _ => faP fa70_0 rfl) rfl, oP (fun _ => ldP rfl sz3 ag3 rfl) rfl, oP (fun _ => neI rfl rfl) rfl, oP (fun _ => mvV rfl) rfl, oG rfl (fun _ => rfl) (nf c1) (fun _ => faP fa31_1 rfl) rfl, oG rfl (fun _ => rfl) (nf c1) (fun _ => ldP rfl sz29 ag29 rfl) rfl, oG rfl (fun _ => rfl) (nf c1) (fun _ => lnR (l := a1.W) sl29 rfl) rfl, oG rfl (fun _ => rfl) (nf c1) (fun _ => eqI rfl rfl) rfl, oP (fun _ => pkFV rfl (nf c1) rfl) rfl, oP (fun _ => mvV rfl) rfl, oN rfl (fun _ => rfl) (bt c2) rfl, oN rfl (fun _ => rfl) (bt c2) rfl, oN rfl (fun _ => rfl) (bt c2) rfl, oN rfl (fun _ => rfl) (bt c2) rfl, oN rfl (fun _ => rfl) (bt c2) rfl, oN rfl (fun _ => rfl) (bt c2) rfl, oN rfl (fun _ => rfl) (bt c2) rfl, oP (fun _ => pkTV rfl (bt c2) rfl) rfl, trivial⟩) _ (by exact ⟨.ptr rfl, .ptr rfl, .ptr rfl, cB rfl (mOrF (bnotF (bt c1)) (mOrT (bt c2))), trivial⟩) (by rfl)
      · exact .drawM [(19, 26, bo ((rdl a1.W 0) != a0.G)), (18, 25, bo ((rdl a1.W 0) != a0.G)), (17, 24, i6 a0.G), (16, 23, .ptr 0 1 10 0 1), (15, 22, i6 (rdl a1.W 0)), (14, 21, .cptr ((cInt .i64) (rdl a1.W 0)) 0), (13, 20, .rows (a1.W.map (cInt .i64))), (12, 19, .ptr 1 1 2 0 1), (11, 18, bo ((a1.W.length : Int) == 0)), (10, 17, bo ((a1.W.length : Int) == 0)), (9, 16, bo ((a1.W.length : Int) == 0)), (8, 15, i6 (a1.W.length : Int)), (7, 14, .rows (a1.W.map (cInt .i64))), (6, 13, .ptr 1 1 2 0 1), (5, 12, bo (a1.P != a0.P)), (4, 11, bo (a1.P != a0.P)), (3, 10, i6 a0.P), (2, 9, .ptr 0 1 10 0 0), (1, 8, i6 a1.P), (0, 7, .ptr 1 1 2 0 0)] [] GD_A1 (by rfl) (by rfl) (by rfl) (by exact ⟨oP (fun _ => faP fa31_0 rfl) rfl, oP (fun _ => ldP rfl sz3 ag3 rfl) rfl, oP (fun _ => faP fa70_0 rfl) rfl, oP (fun _ => ldP rfl sz3 ag3 rfl) rfl, oP (fun _ => neI rfl rfl) rfl, oP (fun _ => mvV rfl) rfl, oG rfl (fun _ => rfl) (nf c1) (fun _ => faP fa31_1 rfl) rfl, oG rfl (fun _ => rfl) (nf c1) (fun _ => ldP rfl sz29 ag29 rfl) rfl, oG rfl (fun _ => rfl) (nf c1) (fun _ => lnR (l := a1.W) sl29 rfl) rfl, oG rfl (fun _ => rfl) (nf c1) (fun _ => eqI rfl rfl) rfl, oP (fun _ => pkFV rfl (nf c1) rfl) rfl, oP (fun _ => mvV rfl) rfl, oG rfl (fun _ => rfl) (bn c2) (fun _ => faP fa31_1 rfl) rfl, oG rfl (fun _ => rfl) (bn c2) (fun _ => ldP rfl sz29 ag29 rfl) rfl, oG rfl (fun _ => rfl) (bn c2) (fun _ => ixR (l := a1.W) (lit := (cInt .i64)) sl29 rfl rfl (fun _ => rfl) (g2_14 c1 c2).1 (g2_14 c1 c2).2) rfl, oG rfl (fun _ => rfl) (bn c2) (fun _ => ldC rfl sz3 ag3 rfl) rfl, oG rfl (fun _ => rfl) (bn c2) (fun _ => faP fa70_1 rfl) rfl, oG rfl (fun _ => rfl) (bn c2) (fun _ => ldP rfl sz3 ag3 rfl) rfl, oG rfl (fun _ => rfl) (bn c2) (fun _ => neI rfl rfl) rfl, oP (fun _ => pkFV rfl (bn c2) rfl) rfl, trivial⟩) _ (by exact ⟨.ptr rfl, .ptr rfl, .ptr rfl, cB rfl (mOrF (bnotF (bt c1)) (mOrF (bn c2) rfl)), trivial⟩) (by rfl)
    · exact .drawM [(19, 26, bo true), (18, 25, und), (17, 24, und), (16, 23, und), (15, 22, und), (14, 21, und), (13, 20, und), (12, 19, und), (11, 18, bo true), (10, 17, bo true), (9, 16, und), (8, 15, und), (7, 14, und), (6, 13, und), (5, 12, bo (a1.P != a0.P)), (4, 11, bo (a1.P != a0.P)), (3, 10, i6 a0.P), (2, 9, .ptr 0 1 10 0 0), (1, 8, i6 a1.P), (0, 7, .ptr 1 1 2 0 0)] [] GD_A1 (by rfl) (by rfl) (by rfl) (by exact ⟨oP (fun _ => faP fa31_0 rfl) rfl, oP (fun _ => ldP rfl sz3 ag3 rfl) rfl, oP (fun _ => faP fa70_0 rfl) rfl, oP (fun _ => ldP rfl sz3 ag3 rfl) rfl, oP (fun _ => neI rfl rfl) rfl, oP (fun _ => mvV rfl) rfl, oN rfl (fun _ => rfl) (nt c1) rfl, oN rfl (fun _ => rfl) (nt c1) rfl, oN rfl (fun _ => rfl) (nt c1) rfl, oN rfl (fun _ => rfl) (nt c1) rfl, oP (fun _ => pkTV rfl (nt c1) rfl) rfl, oP (fun _ => mvV rfl) rfl, oN rfl (fun _ => rfl) rfl rfl, oN rfl (fun _ => rfl) rfl rfl, oN rfl (fun _ => rfl) rfl rfl, oN rfl (fun _ => rfl) rfl rfl, oN rfl (fun _ => rfl) rfl rfl, oN rfl (fun _ => rfl) rfl rfl, oN rfl (fun _ => rfl) rfl rfl, oP (fun _ => pkTV rfl rfl rfl) rfl, trivial⟩) _ (by exact ⟨.ptr rfl, .ptr rfl, .ptr rfl, cB rfl (mOrT (bnotT (bn c1))), trivial⟩) (by rfl)
  by_cases c3 : ((!(a1.P == a0.P)) || (((a1.W.length : Int) == 0) || ((rdl a1.W 0) != a0.G))) = true
  · rw [if_pos c3] at h
    refine .condT rfl c3 <| .seq <| .reg0 rfl (.op 0 rfl (ldG rfl sz31 ag31 rfl) <| .op 0 rfl (stB (cs0 := [i6 0, nul]) (cs := (TConf.lit a1)) (cs1 := (TConf.lit a1)) rfl rfl sz31 rfl ⟨Nat.le_of_ble_eq_true rfl, rfl⟩ rfl) <| .op 0 rfl (asV rfl) <| .op 0 rfl (asV rfl) <| .nil0) ?_
    replace h := h.symm
    subst h
    refine .k [(4, .cptr (TConf.lit a1) 0), (5, bo false), (6, i6 0)] ⟨cFixP rfl rfl (.cons (.free rfl rfl) <| .cons (.free rfl rfl) <| .nil), .free rfl rfl, .free rfl rfl, trivial⟩ ?_
    exact .ret rfl
  · rw [if_neg c3] at h
    refine .condF rfl (nb c3) <| .skip <| .seq <| .seq <| .reg0 rfl (.op 0 rfl (faP fa31_1 rfl) <| .op 0 rfl (ldP rfl sz29 ag29 rfl) <| .op 0 rfl (lnR (l := a1.W) sl29 rfl) <| .op 0 rfl (subI rfl rfl) <| .op 0 rfl (faP fa70_3 rfl) <| .op 0 rfl (ldP rfl sz29 ag29 rfl) <| .op 0 rfl (lnR (l := a0.W) sl29 rfl) <| .op 0 rfl (addI rfl rfl) <| .op 0 rfl (gtI rfl rfl) <| .nil0) ?_
    by_cases c4 : (IntKind.i64.wrap ((IntKind.i64.wrap ((a1.W.length : Int) - 1)) + (a0.W.length : Int))) > 4096
    · rw [if_pos c4] at h
      refine .condT rfl (dt c4) <| .seq <| .reg0 rfl (.op 0 rfl (ldG rfl sz31 ag31 rfl) <| .op 0 rfl (stB (cs0 := [i6 0, nul]) (cs := (TConf.lit a1)) (cs1 := (TConf.lit a1)) rfl rfl sz31 rfl ⟨Nat.le_of_ble_eq_true rfl, rfl⟩ rfl) <| .op 0 rfl (asV rfl) <| .op 0 rfl (asV rfl) <| .nil0) ?_
      replace h := h.symm
      subst h
      refine .k [(4, .cptr (TConf.lit a1) 0), (5, bo true), (6, i6 2)] ⟨cFixP rfl rfl (.cons (.free rfl rfl) <| .cons (.free rfl rfl) <| .nil), .free rfl rfl, .free rfl rfl, trivial⟩ ?_
      exact .ret rfl
    · rw [if_neg c4] at h
      refine .condF rfl (df c4) <| .skip <| .seq ?_
      obtain ⟨g6_6, h⟩ := h
      obtain ⟨t6_8, g6_8, h⟩ := h
      refine .room 0 ?_
      refine .reg1 (e1 := listEnv [(4, .ptr 2 1 2 0 0), (5, bo true), (6, i6 0)]) (H1 := [⟨10, [(TRule.lit a0)], 0, none⟩, ⟨2, [(TConf.lit a1)], 0, none⟩, ⟨2, [[i6 a0.Q, .rows (t6_8.map (cInt .i64))]], 0, none⟩, ⟨1, [a0.W, (cutl a1.W 1 (a1.W.length : Int))].map (cSl (cInt .i64)), (max 0 ([a0.W, (cutl a1.W 1 (a1.W.length : Int))].map (cSl (cInt .i64)) : List (List PV)).length), none⟩]) rfl ?_ ?_
      · exact .drawM [(12, 6, i6 0), (11, 5, bo true), (9, 47, .agg [i6 a0.Q, .rows (t6_8.map (cInt .i64))]), (8, 46, .rows (t6_8.map (cInt .i64))), (7, 45, .own 3 ([a0.W, (cutl a1.W 1 (a1.W.length : Int))].length)), (6, 44, .rows ((cutl a1.W 1 (a1.W.length : Int)).map (cInt .i64))), (5, 43, .rows (a1.W.map (cInt .i64))), (4, 42, .ptr 1 1 2 0 1), (3, 41, .rows (a0.W.map (cInt .i64))), (2, 40, .ptr 0 1 10 0 3), (1, 39, i6 a0.Q), (0, 38, .ptr 0 1 10 0 2)] [(10, 2, ⟨2, [[i6 a0.Q, .rows (t6_8.map (cInt .i64))]], 0, none⟩), (8, 3, ⟨1, [a0.W, (cutl a1.W 1 (a1.W.length : Int))].map (cSl (cInt .i64)), (max 0 ([a0.W, (cutl a1.W 1 (a1.W.length : Int))].map (cSl (cInt .i64)) : List (List PV)).length), none⟩), (7, 3, ⟨1, [a0.W, (cutl a1.W 1 (a1.W.length : Int))].map (cSl (cInt .i64)), 0, none⟩)] [[], [0], [], [2], [], [4], [5, 4], [3, 2, 6, 5, 4], [7, 3, 2, 6, 5, 4], [1, 0, 8, 7, 3, 2, 6, 5, 4], [9, 1, 0, 8, 7, 3, 2, 6, 5, 4], [10, 9, 1, 0, 8, 7, 3, 2, 6, 5, 4], [11, 10, 9, 1, 0, 8, 7, 3, 2, 6, 5, 4]] (by rfl) (by rfl) (by rfl) (by exact ⟨oP (fun _ => faP fa70_2 rfl) rfl, oP (fun _ => ldP rfl sz3 ag3 rfl) rfl, oP (fun _ => faP fa70_3 rfl) rfl, oP (fun _ => ldP rfl sz29 ag29 rfl) rfl, oP (fun _ => faP fa31_1 rfl) rfl, oP (fun _ => ldP rfl sz29 ag29 rfl) rfl, oP (fun _ => slR (l := a1.W) (v := Int.toNat 1) sl29 rfl (bound_some rfl g6_6.1) bound_nl (cut_le' g6_6) (Nat.le_refl _)) rfl, oW 3 (fun _ => bldL (s := 1) (cs := [.rows (a0.W.map (cInt .i64)), .rows ((cutl a1.W 1 (a1.W.length : Int)).map (cInt .i64))]) un125 sz29 ze29 ⟨by decide, rfl, by decide⟩ rfl rfl rfl rfl) rfl fun _ => rfl, fun S hS hD hn => .oneI hS hD hn rfl rfl (callee_of rfl go51 rfl) (.lendC (args' := [.rows ([a0.W, (cutl a1.W 1 (a1.W.length : Int))].map (cSl (cInt .i64)))])  [3] true (.cons (cFixO (l := [a0.W, (cutl a1.W 1 (a1.W.length : Int))]) sl125 rfl rfl rfl rfl) <| .nil) (by decide) rfl rfl rfl rfl (slices_Concat_int.D g6_8)) rfl rfl rfl, oP (fun _ => bldS (cs := [i6 a0.Q, .rows (t6_8.map (cInt .i64))]) ze31 pl31 rfl rfl) rfl, fun S hS hD hn => .one0 0 rfl rfl (stB (cs0 := [i6 0, nul]) (cs := [i6 a0.Q, .rows (t6_8.map (cInt .i64))]) (cs1 := [i6 a0.Q, .rows (t6_8.map (cInt .i64))]) rfl rfl sz31 rfl ⟨Nat.le_of_ble_eq_true rfl, rfl⟩ rfl) (drawE_other _ _ _ _ rfl) rfl, oP (fun _ => asV rfl) rfl, oP (fun _ => asV rfl) rfl, trivial⟩) _ (by exact ⟨.ptr rfl, .free rfl rfl, .free rfl rfl, trivial⟩) (by rfl)
      replace h := h.symm
      subst h
      refine .k [(4, .cptr [i6 a0.Q, .rows (t6_8.map (cInt .i64))] 0), (5, bo true), (6, i6 0)] ⟨cFixP rfl rfl (.cons (.free rfl rfl) <| .cons (.free rfl rfl) <| .nil), .free rfl rfl, .free rfl rfl, trivial⟩ ?_
      exact .ret rfl
end Go.RM.Tryz
