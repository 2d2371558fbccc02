/- GC, for the statement StepsParts: what it needs, no more. -/
import Derived.Test.YtkcmehgfndfbhaaGreatDoorZStepsPartsGB
set_option linter.unusedVariables false
set_option maxRecDepth 8000
set_option maxHeartbeats 4000000
namespace Go.RM.Tryz
open Go.RM Go.Proofs
def slices_IndexFunc_Space.b1 (a0 : List TSpace) (a1 : TSpace → Bool → Prop) : Int → Rnd Int Unit Int → Prop := fun x1 z1 => if x1 < (a0.length : Int) then (((InR x1 a0.length)) ∧ ∃ t15_5 : Bool, (a1 (rdl a0 x1) t15_5) ∧ if t15_5 = true then (z1 = .ret x1) else (z1 = .next (IntKind.i64.wrap (x1 + 1)))) else (z1 = .exit ())
def slices_IndexFunc_Space.f (a0 : List TSpace) (a1 : TSpace → Bool → Prop) (r : Int) : Prop :=
  ∃ o1 : Fin Unit Int, Loop (slices_IndexFunc_Space.b1 a0 a1) 0 o1 ∧ o1.on (fun _ => r = (-1)) (fun r_ => r = r_)
theorem slices_IndexFunc_Space.D {a0 : List TSpace} {a1 : TSpace → Bool → Prop} {r : Int} {c1_ : FuncId} {k1_ : List PV} (hg1_ : isGo Tryz.prog c1_ = true) (hk1_ : PV.free deep (.clo c1_ k1_) = true) (hka1_ : k1_.all (PV.free deep) = true) (hq1_ : ∀ x0_ y_, a1 x0_ y_ → D Tryz.prog X (.callH c1_ ([.agg (TSpace.lit x0_)] ++ k1_) [] (.val (.bool y_)) [])) (h : slices_IndexFunc_Space.f a0 a1 r) : D Tryz.prog X (.callH 98 [.rows (a0.map TSpace.cells), .clo c1_ k1_] [] (.val (.int .i64 r)) []) := by
  unfold slices_IndexFunc_Space.f at h
  refine .enter 19 0 fn98 rfl rfl rfl <| .seq <| .reg0 rfl (.op 0 rfl (asV rfl) <| .nil0) <| .seq <| .seq <| .reg0 rfl (.op 0 rfl (mvR rfl) <| .op 0 rfl (lnR (l := a0) sl23 rfl) <| .op 0 rfl (mvV rfl) <| .nil0) <| .block <| .keepL [] [(0, .rows (a0.map TSpace.cells)), (1, .clo c1_ k1_), (7, i6 (a0.length : Int)), (8, i6 0)] [] (by decide) (by decide) ⟨.free rfl rfl, .free rfl hk1_, .free rfl rfl, .free rfl rfl, trivial⟩ trivial ?_
  obtain ⟨o1, hL1, h⟩ := h
  refine .loopB (slices_IndexFunc_Space.b1 a0 a1) (fun x1 => listEnv [(0, .rows (a0.map TSpace.cells)), (1, .clo c1_ k1_), (7, i6 (a0.length : Int)), (8, i6 x1)]) (fun x1 => []) (fun _ => listEnv []) (fun _ => []) hL1 (fun r_ => r = r_) ?_ ?_ ?_
  · rintro ⟨⟩ rfl
    try dsimp only [Fin.on] at h
    refine .seq <| .reg0 rfl (.op 0 rfl (asV rfl) <| .nil0) ?_
    replace h := h.symm
    subst h
    refine .kf [(4, i6 (-1))] rfl rfl ?_
    exact .ret rfl
  · rintro r_ rfl
    exact h
  · rintro x1 z1 h hn1 hx1 hr1
    dsimp only [slices_IndexFunc_Space.b1] at h
    refine .seq <| .reg0 rfl (.op 0 rfl (ltI rfl rfl) <| .nil0) <| .seq ?_
    by_cases c5 : x1 < (a0.length : Int)
    · rw [if_pos c5] at h
      refine .condT rfl (dt c5) <| .skip <| .seq <| .block <| .seq <| .reg0 rfl (.op 0 rfl (mvV rfl) <| .op 0 rfl (asV rfl) <| .nil0) <| .seq ?_
      obtain ⟨g15_3, h⟩ := h
      obtain ⟨t15_5, g15_5, h⟩ := h
      refine .reg0 rfl (.o (mvF rfl) <| .o (mvR rfl) <| .m rfl <| .o (ixR (l := a0) (lit := TSpace.lit) sl23 rfl rfl TSpace.cells_lit g15_3.1 g15_3.2) <| .o (ldCG rfl sz25 ag25 rfl) <| .callI rfl (callee_of rfl hg1_ rfl) (.pure (allCons rfl hka1_) rfl (hq1_ _ _ g15_5)) <| .nil0) ?_
      by_cases c6 : t15_5 = true
      · rw [if_pos c6] at h
        refine .condT rfl c6 <| .seq <| .reg0 rfl (.op 0 rfl (mvV rfl) <| .op 0 rfl (asV rfl) <| .nil0) ?_
        have q3 := hr1 _ h
        replace q3 := q3.symm
        subst q3
        refine .kf [(4, i6 x1)] rfl rfl ?_
        exact .ret rfl
      · rw [if_neg c6] at h
        refine .condF rfl (nb c6) <| .skip <| .inBlock <| .reg0 rfl (.op 0 rfl (addI rfl rfl) <| .op 0 rfl (mvV rfl) <| .nil0) <| .k [(0, .rows (a0.map TSpace.cells)), (1, .clo c1_ k1_), (7, i6 (a0.length : Int)), (8, i6 (IntKind.i64.wrap (x1 + 1)))] ⟨.free rfl rfl, .free rfl hk1_, .free rfl rfl, .free rfl rfl, trivial⟩ ?_
        exact hn1 _ h
    · rw [if_neg c5] at h
      refine .condF rfl (df c5) <| .exit rfl <| .keepL [] [] [] (by decide) (by decide) trivial trivial ?_
      exact hx1 _ h
def slices_ContainsFunc_Space.f (a0 : List TSpace) (a1 : TSpace → Bool → Prop) (r : Bool) : Prop :=
  ∃ t2_2 : Int, (slices_IndexFunc_Space.f a0 a1 t2_2) ∧ r = (decide (t2_2 ≥ 0))
theorem slices_ContainsFunc_Space.D {a0 : List TSpace} {a1 : TSpace → Bool → Prop} {r : Bool} {c1_ : FuncId} {k1_ : List PV} (hg1_ : isGo Tryz.prog c1_ = true) (hk1_ : PV.free deep (.clo c1_ k1_) = true) (hka1_ : k1_.all (PV.free deep) = true) (hq1_ : ∀ x0_ y_, a1 x0_ y_ → D Tryz.prog X (.callH c1_ ([.agg (TSpace.lit x0_)] ++ k1_) [] (.val (.bool y_)) [])) (h : slices_ContainsFunc_Space.f a0 a1 r) : D Tryz.prog X (.callH 69 [.rows (a0.map TSpace.cells), .clo c1_ k1_] [] (.val (.bool r)) []) := by
  unfold slices_ContainsFunc_Space.f at h
  refine .enter 9 0 fn69 rfl rfl rfl <| .seq <| .reg0 rfl (.op 0 rfl (asV rfl) <| .nil0) <| .seq ?_
  obtain ⟨t2_2, g2_2, h⟩ := h
  refine .reg0 rfl (.o (mvR rfl) <| .o (mvF rfl) <| .callI rfl (callee_of rfl go98 rfl) (.pure (allCons rfl (allCons hk1_ rfl)) rfl (slices_IndexFunc_Space.D hg1_ hk1_ hka1_ hq1_ g2_2)) <| .o (geI rfl rfl) <| .a rfl <| .nil0) ?_
  replace h := h.symm
  subst h
  refine .kf [(4, bo (decide (t2_2 ≥ 0)))] rfl rfl ?_
  exact .ret rfl
def weight_Space_1.f (self49 : TSpace → Int → Prop) (a0 : TSpace) (r : Bool) : Prop :=
  ∃ t2_5 : Int, (¬ (a0.Tag = 5) → self49 a0 t2_5) ∧ r = ((a0.Tag == 5) || (t2_5 != 0))
theorem weight_Space_1.D {self49 : TSpace → Int → Prop} {a0 : TSpace} (hs49 : ∀ z0_ r_, self49 z0_ r_ → D Tryz.prog X (.callH 49 [.agg (TSpace.lit z0_)] [] (.val (.int .i64 r_)) [])) {r : Bool} (h : weight_Space_1.f self49 a0 r) : D Tryz.prog X (.callH 70 [.agg (TSpace.lit a0)] [] (.val (.bool r)) []) := by
  unfold weight_Space_1.f at h
  refine .enter 11 0 fn70 rfl rfl rfl <| .seq <| .room 0 <| .reg0 rfl (.op 0 rfl (bxP (s := 3) (cs := (TSpace.lit a0)) rfl ⟨rfl, by decide, rfl⟩ rfl) <| .op 0 rfl (asV rfl) <| .nil0) <| .seq ?_
  obtain ⟨t2_5, g2_5, h⟩ := h
  refine .reg0 (e1 := listEnv [(2, bo ((a0.Tag == 5) || (t2_5 != 0)))]) (H1 := [⟨3, [(TSpace.lit a0)], 0, none⟩]) rfl ?_ ?_
  · refine .o (faP fa25_0 rfl) <| .o (ldP rfl sz22 ag22 rfl) <| .o (eqI rfl rfl) <| .m rfl <| ?_
    by_cases c1 : a0.Tag = 5
    · exact (.n rfl (bt c1) <| .n rfl (bt c1) <| .n rfl (bt c1) <| .o (pkTV rfl (bt c1) rfl) <| .a rfl <| .nilL _ ⟨cB rfl (mOrT (bt c1)), trivial⟩)
    · exact (.g rfl (bn c1) (ldG rfl sz25 ag25 rfl) <| .callI (gT rfl rfl rfl (bn c1)) (callee_of rfl go49 rfl) (.pure rfl rfl (hs49 _ _ (g2_5 c1))) <| .g rfl (bn c1) (neI rfl rfl) <| .o (pkFV rfl (bn c1) rfl) <| .a rfl <| .nilL _ ⟨cB rfl (mOrF (bn c1) rfl), trivial⟩)
  replace h := h.symm
  subst h
  refine .kf [(2, bo ((a0.Tag == 5) || (t2_5 != 0)))] rfl rfl ?_
  exact .ret rfl
def weight_Space.j1 (a0 : TSpace) : Unit → Int → Prop := fun _ r => if ((decide (a0.Dim ≥ 0)) && ((decide (a0.Dim ≤ 64)) && ((a0.Parts.length : Int) == 0))) = true then (r = 0) else (r = 50)
def weight_Space.step (self49 : TSpace → Int → Prop) (a0 : TSpace) (r : Int) : Prop :=
  if a0.Tag = 1 then (if ((a0.Dim == 0) && ((a0.Parts.length : Int) == 0)) = true then (r = 0) else (r = 50)) else (if a0.Tag = 2 then (if ((decide (a0.Dim ≥ 0)) && ((decide (a0.Dim ≤ 1048576)) && ((a0.Parts.length : Int) == 0))) = true then (r = 0) else (r = 50)) else (if a0.Tag = 3 then (weight_Space.j1 a0 () r) else (if a0.Tag = 4 then (weight_Space.j1 a0 () r) else (if a0.Tag = 5 then (∃ t40_12 : Bool, ((a0.Dim = 0) → ((a0.Parts.length : Int) = 2) → slices_ContainsFunc_Space.f a0.Parts (fun x0_ y_ => weight_Space_1.f self49 x0_ y_) t40_12) ∧ if ((a0.Dim == 0) && (((a0.Parts.length : Int) == 2) && (!t40_12))) = true then (r = 0) else (r = 50)) else (r = 50)))))
theorem weight_Space.stepD {self49 : TSpace → Int → Prop} {a0 : TSpace} (hs49 : ∀ z0_ r_, self49 z0_ r_ → D Tryz.prog X (.callH 49 [.agg (TSpace.lit z0_)] [] (.val (.int .i64 r_)) [])) {r : Int} (h : weight_Space.step self49 a0 r) : D Tryz.prog X (.callH 49 [.agg (TSpace.lit a0)] [] (.val (.int .i64 r)) []) := by
  unfold weight_Space.step at h
  refine .enter 70 0 fn49 rfl rfl rfl <| .seq <| .room 0 <| .reg0 rfl (.op 0 rfl (bxP (s := 3) (cs := (TSpace.lit a0)) rfl ⟨rfl, by decide, rfl⟩ rfl) <| .op 0 rfl (asV rfl) <| .nil0) <| .seq <| .reg0 rfl (.op 0 rfl (asV rfl) <| .nil0) <| .seq <| .seq <| .reg0 rfl (.op 0 rfl (faP fa25_0 rfl) <| .op 0 rfl (ldP rfl sz22 ag22 rfl) <| .nil0) <| .block <| .seq <| .block <| .seq ?_
  refine .consJ (fun s_ => weight_Space.j1 a0 s_ r) (fun _ => listEnv [(1, .ptr 0 1 3 0 0)]) (fun _ => [⟨3, [(TSpace.lit a0)], 0, none⟩]) ?_ fun hJ1 => ?_
  · rintro ⟨⟩ h
    unfold weight_Space.j1 at h
    try dsimp only at h
    refine .seq ?_
    refine .reg0 (e1 := listEnv [(3, bo ((decide (a0.Dim ≥ 0)) && ((decide (a0.Dim ≤ 64)) && ((a0.Parts.length : Int) == 0))))]) (H1 := [⟨3, [(TSpace.lit a0)], 0, none⟩]) rfl ?_ ?_
    · refine .o (faP fa25_1 rfl) <| .o (ldP rfl sz3 ag3 rfl) <| .o (geI rfl rfl) <| .m rfl <| ?_
      by_cases c14 : a0.Dim ≥ 0
      · refine .g rfl (dt c14) (faP fa25_1 rfl) <| .g rfl (dt c14) (ldP rfl sz3 ag3 rfl) <| .g rfl (dt c14) (leI rfl rfl) <| .o (pkTV rfl (dt c14) rfl) <| .m rfl <| ?_
        by_cases c15 : a0.Dim ≤ 64
        · exact (.g rfl (dt c15) (faP fa25_2 rfl) <| .g rfl (dt c15) (ldP rfl sz23 ag23 rfl) <| .g rfl (dt c15) (lnR (l := a0.Parts) sl23 rfl) <| .g rfl (dt c15) (eqI rfl rfl) <| .o (pkTV rfl (dt c15) rfl) <| .a rfl <| .nilL _ ⟨cB rfl (mAndT (dt c14) (mAndT (dt c15) rfl)), trivial⟩)
        · exact (.n rfl (df c15) <| .n rfl (df c15) <| .n rfl (df c15) <| .n rfl (df c15) <| .o (pkFV rfl (df c15) rfl) <| .a rfl <| .nilL _ ⟨cB rfl (mAndT (dt c14) (mAndF (df c15))), trivial⟩)
      · exact (.n rfl (df c14) <| .n rfl (df c14) <| .n rfl (df c14) <| .o (pkFV rfl (df c14) rfl) <| .m rfl <| .n rfl rfl <| .n rfl rfl <| .n rfl rfl <| .n rfl rfl <| .o (pkFV rfl rfl rfl) <| .a rfl <| .nilL _ ⟨cB rfl (mAndF (df c14)), trivial⟩)
    refine .exit rfl <| .seq <| .seq <| .reg0 rfl (.op 0 rfl (mvV rfl) <| .op 0 rfl (notB rfl) <| .nil0) ?_
    by_cases c16 : ((decide (a0.Dim ≥ 0)) && ((decide (a0.Dim ≤ 64)) && ((a0.Parts.length : Int) == 0))) = true
    · rw [if_pos c16] at h
      refine .condF rfl (bnotF c16) <| .skip <| .seq <| .reg0 rfl (.op 0 rfl (asV rfl) <| .nil0) ?_
      replace h := h.symm
      subst h
      refine .kf [(2, i6 0)] rfl rfl ?_
      exact .ret rfl
    · rw [if_neg c16] at h
      refine .condT rfl (bnotT (nb c16)) <| .seq <| .reg0 rfl (.op 0 rfl (asV rfl) <| .nil0) ?_
      replace h := h.symm
      subst h
      refine .kf [(2, i6 50)] rfl rfl ?_
      exact .ret rfl
  · refine .block <| .block <| .seq <| .block <| .seq <| .block <| .seq <| .seq <| .seq <| .reg0 rfl (.op 0 rfl (eqI rfl rfl) <| .op 0 rfl (asV rfl) <| .nil0) ?_
    by_cases c17 : a0.Tag = 1
    · rw [if_pos c17] at h
      refine .condT rfl (bt c17) <| .exit rfl <| .seq ?_
      refine .reg0 (e1 := listEnv [(3, bo ((a0.Dim == 0) && ((a0.Parts.length : Int) == 0)))]) (H1 := [⟨3, [(TSpace.lit a0)], 0, none⟩]) rfl ?_ ?_
      · refine .o (faP fa25_1 rfl) <| .o (ldP rfl sz3 ag3 rfl) <| .o (eqI rfl rfl) <| .m rfl <| ?_
        by_cases c18 : a0.Dim = 0
        · exact (.g rfl (bt c18) (faP fa25_2 rfl) <| .g rfl (bt c18) (ldP rfl sz23 ag23 rfl) <| .g rfl (bt c18) (lnR (l := a0.Parts) sl23 rfl) <| .g rfl (bt c18) (eqI rfl rfl) <| .o (pkTV rfl (bt c18) rfl) <| .a rfl <| .nilL _ ⟨cB rfl (mAndT (bt c18) rfl), trivial⟩)
        · exact (.n rfl (bn c18) <| .n rfl (bn c18) <| .n rfl (bn c18) <| .n rfl (bn c18) <| .o (pkFV rfl (bn c18) rfl) <| .a rfl <| .nilL _ ⟨cB rfl (mAndF (bn c18)), trivial⟩)
      refine .exit rfl <| .seq <| .seq <| .reg0 rfl (.op 0 rfl (mvV rfl) <| .op 0 rfl (notB rfl) <| .nil0) ?_
      by_cases c19 : ((a0.Dim == 0) && ((a0.Parts.length : Int) == 0)) = true
      · rw [if_pos c19] at h
        refine .condF rfl (bnotF c19) <| .skip <| .seq <| .reg0 rfl (.op 0 rfl (asV rfl) <| .nil0) ?_
        replace h := h.symm
        subst h
        refine .kf [(2, i6 0)] rfl rfl ?_
        exact .ret rfl
      · rw [if_neg c19] at h
        refine .condT rfl (bnotT (nb c19)) <| .seq <| .reg0 rfl (.op 0 rfl (asV rfl) <| .nil0) ?_
        replace h := h.symm
        subst h
        refine .kf [(2, i6 50)] rfl rfl ?_
        exact .ret rfl
    · rw [if_neg c17] at h
      refine .condF rfl (bn c17) <| .skip <| .seq <| .seq <| .reg0 rfl (.op 0 rfl (eqI rfl rfl) <| .op 0 rfl (asV rfl) <| .nil0) ?_
      by_cases c20 : a0.Tag = 2
      · rw [if_pos c20] at h
        refine .condT rfl (bt c20) <| .exit rfl <| .seq ?_
        refine .reg0 (e1 := listEnv [(3, bo ((decide (a0.Dim ≥ 0)) && ((decide (a0.Dim ≤ 1048576)) && ((a0.Parts.length : Int) == 0))))]) (H1 := [⟨3, [(TSpace.lit a0)], 0, none⟩]) rfl ?_ ?_
        · refine .o (faP fa25_1 rfl) <| .o (ldP rfl sz3 ag3 rfl) <| .o (geI rfl rfl) <| .m rfl <| ?_
          by_cases c21 : a0.Dim ≥ 0
          · refine .g rfl (dt c21) (faP fa25_1 rfl) <| .g rfl (dt c21) (ldP rfl sz3 ag3 rfl) <| .g rfl (dt c21) (leI rfl rfl) <| .o (pkTV rfl (dt c21) rfl) <| .m rfl <| ?_
            by_cases c22 : a0.Dim ≤ 1048576
            · exact (.g rfl (dt c22) (faP fa25_2 rfl) <| .g rfl (dt c22) (ldP rfl sz23 ag23 rfl) <| .g rfl (dt c22) (lnR (l := a0.Parts) sl23 rfl) <| .g rfl (dt c22) (eqI rfl rfl) <| .o (pkTV rfl (dt c22) rfl) <| .a rfl <| .nilL _ ⟨cB rfl (mAndT (dt c21) (mAndT (dt c22) rfl)), trivial⟩)
            · exact (.n rfl (df c22) <| .n rfl (df c22) <| .n rfl (df c22) <| .n rfl (df c22) <| .o (pkFV rfl (df c22) rfl) <| .a rfl <| .nilL _ ⟨cB rfl (mAndT (dt c21) (mAndF (df c22))), trivial⟩)
          · exact (.n rfl (df c21) <| .n rfl (df c21) <| .n rfl (df c21) <| .o (pkFV rfl (df c21) rfl) <| .m rfl <| .n rfl rfl <| .n rfl rfl <| .n rfl rfl <| .n rfl rfl <| .o (pkFV rfl rfl rfl) <| .a rfl <| .nilL _ ⟨cB rfl (mAndF (df c21)), trivial⟩)
        refine .exit rfl <| .seq <| .seq <| .reg0 rfl (.op 0 rfl (mvV rfl) <| .op 0 rfl (notB rfl) <| .nil0) ?_
        by_cases c23 : ((decide (a0.Dim ≥ 0)) && ((decide (a0.Dim ≤ 1048576)) && ((a0.Parts.length : Int) == 0))) = true
        · rw [if_pos c23] at h
          refine .condF rfl (bnotF c23) <| .skip <| .seq <| .reg0 rfl (.op 0 rfl (asV rfl) <| .nil0) ?_
          replace h := h.symm
          subst h
          refine .kf [(2, i6 0)] rfl rfl ?_
          exact .ret rfl
        · rw [if_neg c23] at h
          refine .condT rfl (bnotT (nb c23)) <| .seq <| .reg0 rfl (.op 0 rfl (asV rfl) <| .nil0) ?_
          replace h := h.symm
          subst h
          refine .kf [(2, i6 50)] rfl rfl ?_
          exact .ret rfl
      · rw [if_neg c20] at h
        refine .condF rfl (bn c20) <| .skip <| .seq <| .seq <| .reg0 rfl (.op 0 rfl (eqI rfl rfl) <| .op 0 rfl (asV rfl) <| .nil0) ?_
        by_cases c24 : a0.Tag = 3
        · rw [if_pos c24] at h
          refine .condT rfl (bt c24) <| .exit rfl <| .inBlock <| .keepL [0] [(1, .ptr 0 1 3 0 0)] [⟨3, [(TSpace.lit a0)], 0, none⟩] (by decide) (by decide) ⟨.ptr rfl, trivial⟩ ⟨⟨_, rfl, bcBox (all2_free rfl)⟩, trivial⟩ ?_
          exact hJ1 _ h
        · rw [if_neg c24] at h
          refine .condF rfl (bn c24) <| .skip <| .seq <| .seq <| .reg0 rfl (.op 0 rfl (eqI rfl rfl) <| .op 0 rfl (asV rfl) <| .nil0) ?_
          by_cases c25 : a0.Tag = 4
          · rw [if_pos c25] at h
            refine .condT rfl (bt c25) <| .exit rfl <| .keepL [0] [(1, .ptr 0 1 3 0 0)] [⟨3, [(TSpace.lit a0)], 0, none⟩] (by decide) (by decide) ⟨.ptr rfl, trivial⟩ ⟨⟨_, rfl, bcBox (all2_free rfl)⟩, trivial⟩ ?_
            exact hJ1 _ h
          · rw [if_neg c25] at h
            refine .condF rfl (bn c25) <| .skip <| .seq <| .reg0 rfl (.op 0 rfl (eqI rfl rfl) <| .op 0 rfl (asV rfl) <| .nil0) ?_
            by_cases c26 : a0.Tag = 5
            · rw [if_pos c26] at h
              refine .condT rfl (bt c26) <| .exit rfl <| .seq ?_
              obtain ⟨t40_12, g40_12, h⟩ := h
              refine .reg0 (e1 := listEnv [(3, bo ((a0.Dim == 0) && (((a0.Parts.length : Int) == 2) && (!t40_12))))]) (H1 := [⟨3, [(TSpace.lit a0)], 0, none⟩]) rfl ?_ ?_
              · refine .o (faP fa25_1 rfl) <| .o (ldP rfl sz3 ag3 rfl) <| .o (eqI rfl rfl) <| .m rfl <| ?_
                by_cases c27 : a0.Dim = 0
                · refine .g rfl (bt c27) (faP fa25_2 rfl) <| .g rfl (bt c27) (ldP rfl sz23 ag23 rfl) <| .g rfl (bt c27) (lnR (l := a0.Parts) sl23 rfl) <| .g rfl (bt c27) (eqI rfl rfl) <| .o (pkTV rfl (bt c27) rfl) <| .m rfl <| ?_
                  by_cases c28 : (a0.Parts.length : Int) = 2
                  · exact (.g rfl (bt c28) (faP fa25_2 rfl) <| .g rfl (bt c28) (ldP rfl sz23 ag23 rfl) <| .callI (gT rfl rfl rfl (bt c28)) (callee_of rfl go69 rfl) (.pure rfl rfl (slices_ContainsFunc_Space.D (k1_ := []) go70 rfl rfl (fun x0_ y_ h_ => weight_Space_1.D hs49 h_) (g40_12 c27 c28))) <| .g rfl (bt c28) (notB rfl) <| .o (pkTV rfl (bt c28) rfl) <| .a rfl <| .nilL _ ⟨cB rfl (mAndT (bt c27) (mAndT (bt c28) rfl)), trivial⟩)
                  · exact (.n rfl (bn c28) <| .n rfl (bn c28) <| .n rfl (bn c28) <| .n rfl (bn c28) <| .o (pkFV rfl (bn c28) rfl) <| .a rfl <| .nilL _ ⟨cB rfl (mAndT (bt c27) (mAndF (bn c28))), trivial⟩)
                · exact (.n rfl (bn c27) <| .n rfl (bn c27) <| .n rfl (bn c27) <| .n rfl (bn c27) <| .o (pkFV rfl (bn c27) rfl) <| .m rfl <| .n rfl rfl <| .n rfl rfl <| .n rfl rfl <| .n rfl rfl <| .o (pkFV rfl rfl rfl) <| .a rfl <| .nilL _ ⟨cB rfl (mAndF (bn c27)), trivial⟩)
              refine .exit rfl <| .seq <| .seq <| .reg0 rfl (.op 0 rfl (mvV rfl) <| .op 0 rfl (notB rfl) <| .nil0) ?_
              by_cases c29 : ((a0.Dim == 0) && (((a0.Parts.length : Int) == 2) && (!t40_12))) = true
              · rw [if_pos c29] at h
                refine .condF rfl (bnotF c29) <| .skip <| .seq <| .reg0 rfl (.op 0 rfl (asV rfl) <| .nil0) ?_
                replace h := h.symm
                subst h
                refine .kf [(2, i6 0)] rfl rfl ?_
                exact .ret rfl
              · rw [if_neg c29] at h
                refine .condT rfl (bnotT (nb c29)) <| .seq <| .reg0 rfl (.op 0 rfl (asV rfl) <| .nil0) ?_
                replace h := h.symm
                subst h
                refine .kf [(2, i6 50)] rfl rfl ?_
                exact .ret rfl
            · rw [if_neg c26] at h
              refine .condF rfl (bn c26) <| .skip <| .exit rfl <| .seq <| .seq <| .reg0 rfl (.op 0 rfl (mvV rfl) <| .op 0 rfl (notB rfl) <| .nil0) <| .condT rfl (bnotT rfl) <| .seq <| .reg0 rfl (.op 0 rfl (asV rfl) <| .nil0) ?_
              replace h := h.symm
              subst h
              refine .kf [(2, i6 50)] rfl rfl ?_
              exact .ret rfl
def weight_Space.fN : Nat → TSpace → Int → Prop
  | 0 => fun _ _ => False
  | n + 1 => weight_Space.step (weight_Space.fN n)
theorem weight_Space.ND : ∀ (n : Nat) {a0 : TSpace} {r : Int} (h : weight_Space.fN n a0 r), D Tryz.prog X (.callH 49 [.agg (TSpace.lit a0)] [] (.val (.int .i64 r)) [])
  | 0, _, _, h => h.elim
  | n + 1, _, _, h => weight_Space.stepD (fun _ _ h => weight_Space.ND n h) h
def weight_Space.f (a0 : TSpace) (r : Int) : Prop := ∃ n, weight_Space.fN n a0 r
theorem weight_Space.D {a0 r} (h : weight_Space.f a0 r) : D Tryz.prog X (.callH 49 [.agg (TSpace.lit a0)] [] (.val (.int .i64 r)) []) := by obtain ⟨n, h⟩ := h; exact weight_Space.ND n h
def slices_IndexFunc_Rule.b1 (a0 : List TRule) (a1 : TRule → Bool → Prop) : Int → Rnd Int Unit Int → Prop := fun x1 z1 => if x1 < (a0.length : Int) then (((InR x1 a0.length)) ∧ ∃ t15_5 : Bool, (a1 (rdl a0 x1) t15_5) ∧ if t15_5 = true then (z1 = .ret x1) else (z1 = .next (IntKind.i64.wrap (x1 + 1)))) else (z1 = .exit ())
def slices_IndexFunc_Rule.f (a0 : List TRule) (a1 : TRule → Bool → Prop) (r : Int) : Prop :=
  ∃ o1 : Fin Unit Int, Loop (slices_IndexFunc_Rule.b1 a0 a1) 0 o1 ∧ o1.on (fun _ => r = (-1)) (fun r_ => r = r_)
theorem slices_IndexFunc_Rule.D {a0 : List TRule} {a1 : TRule → Bool → Prop} {r : Int} {c1_ : FuncId} {k1_ : List PV} (hg1_ : isGo Tryz.prog c1_ = true) (hk1_ : PV.free deep (.clo c1_ k1_) = true) (hka1_ : k1_.all (PV.free deep) = true) (hq1_ : ∀ x0_ y_, a1 x0_ y_ → D Tryz.prog X (.callH c1_ ([.agg (TRule.lit x0_)] ++ k1_) [] (.val (.bool y_)) [])) (h : slices_IndexFunc_Rule.f a0 a1 r) : D Tryz.prog X (.callH 94 [.rows (a0.map TRule.cells), .clo c1_ k1_] [] (.val (.int .i64 r)) []) := by
  unfold slices_IndexFunc_Rule.f at h
  refine .enter 19 0 fn94 rfl rfl rfl <| .seq <| .reg0 rfl (.op 0 rfl (asV rfl) <| .nil0) <| .seq <| .seq <| .reg0 rfl (.op 0 rfl (mvR rfl) <| .op 0 rfl (lnR (l := a0) sl26 rfl) <| .op 0 rfl (mvV rfl) <| .nil0) <| .block <| .keepL [] [(0, .rows (a0.map TRule.cells)), (1, .clo c1_ k1_), (7, i6 (a0.length : Int)), (8, i6 0)] [] (by decide) (by decide) ⟨.free rfl rfl, .free rfl hk1_, .free rfl rfl, .free rfl rfl, trivial⟩ trivial ?_
  obtain ⟨o1, hL1, h⟩ := h
  refine .loopB (slices_IndexFunc_Rule.b1 a0 a1) (fun x1 => listEnv [(0, .rows (a0.map TRule.cells)), (1, .clo c1_ k1_), (7, i6 (a0.length : Int)), (8, i6 x1)]) (fun x1 => []) (fun _ => listEnv []) (fun _ => []) hL1 (fun r_ => r = r_) ?_ ?_ ?_
  · rintro ⟨⟩ rfl
    try dsimp only [Fin.on] at h
    refine .seq <| .reg0 rfl (.op 0 rfl (asV rfl) <| .nil0) ?_
    replace h := h.symm
    subst h
    refine .kf [(4, i6 (-1))] rfl rfl ?_
    exact .ret rfl
  · rintro r_ rfl
    exact h
  · rintro x1 z1 h hn1 hx1 hr1
    dsimp only [slices_IndexFunc_Rule.b1] at h
    refine .seq <| .reg0 rfl (.op 0 rfl (ltI rfl rfl) <| .nil0) <| .seq ?_
    by_cases c5 : x1 < (a0.length : Int)
    · rw [if_pos c5] at h
      refine .condT rfl (dt c5) <| .skip <| .seq <| .block <| .seq <| .reg0 rfl (.op 0 rfl (mvV rfl) <| .op 0 rfl (asV rfl) <| .nil0) <| .seq ?_
      obtain ⟨g15_3, h⟩ := h
      obtain ⟨t15_5, g15_5, h⟩ := h
      refine .reg0 rfl (.o (mvF rfl) <| .o (mvR rfl) <| .m rfl <| .o (ixR (l := a0) (lit := TRule.lit) sl26 rfl rfl (fun _ => rfl) g15_3.1 g15_3.2) <| .o (ldCG rfl sz70 ag70 rfl) <| .callI rfl (callee_of rfl hg1_ rfl) (.pure (allCons rfl hka1_) rfl (hq1_ _ _ g15_5)) <| .nil0) ?_
      by_cases c6 : t15_5 = true
      · rw [if_pos c6] at h
        refine .condT rfl c6 <| .seq <| .reg0 rfl (.op 0 rfl (mvV rfl) <| .op 0 rfl (asV rfl) <| .nil0) ?_
        have q3 := hr1 _ h
        replace q3 := q3.symm
        subst q3
        refine .kf [(4, i6 x1)] rfl rfl ?_
        exact .ret rfl
      · rw [if_neg c6] at h
        refine .condF rfl (nb c6) <| .skip <| .inBlock <| .reg0 rfl (.op 0 rfl (addI rfl rfl) <| .op 0 rfl (mvV rfl) <| .nil0) <| .k [(0, .rows (a0.map TRule.cells)), (1, .clo c1_ k1_), (7, i6 (a0.length : Int)), (8, i6 (IntKind.i64.wrap (x1 + 1)))] ⟨.free rfl rfl, .free rfl hk1_, .free rfl rfl, .free rfl rfl, trivial⟩ ?_
        exact hn1 _ h
    · rw [if_neg c5] at h
      refine .condF rfl (df c5) <| .exit rfl <| .keepL [] [] [] (by decide) (by decide) trivial trivial ?_
      exact hx1 _ h
def slices_ContainsFunc_Rule.f (a0 : List TRule) (a1 : TRule → Bool → Prop) (r : Bool) : Prop :=
  ∃ t2_2 : Int, (slices_IndexFunc_Rule.f a0 a1 t2_2) ∧ r = (decide (t2_2 ≥ 0))
theorem slices_ContainsFunc_Rule.D {a0 : List TRule} {a1 : TRule → Bool → Prop} {r : Bool} {c1_ : FuncId} {k1_ : List PV} (hg1_ : isGo Tryz.prog c1_ = true) (hk1_ : PV.free deep (.clo c1_ k1_) = true) (hka1_ : k1_.all (PV.free deep) = true) (hq1_ : ∀ x0_ y_, a1 x0_ y_ → D Tryz.prog X (.callH c1_ ([.agg (TRule.lit x0_)] ++ k1_) [] (.val (.bool y_)) [])) (h : slices_ContainsFunc_Rule.f a0 a1 r) : D Tryz.prog X (.callH 64 [.rows (a0.map TRule.cells), .clo c1_ k1_] [] (.val (.bool r)) []) := by
  unfold slices_ContainsFunc_Rule.f at h
  refine .enter 9 0 fn64 rfl rfl rfl <| .seq <| .reg0 rfl (.op 0 rfl (asV rfl) <| .nil0) <| .seq ?_
  obtain ⟨t2_2, g2_2, h⟩ := h
  refine .reg0 rfl (.o (mvR rfl) <| .o (mvF rfl) <| .callI rfl (callee_of rfl go94 rfl) (.pure (allCons rfl (allCons hk1_ rfl)) rfl (slices_IndexFunc_Rule.D hg1_ hk1_ hka1_ hq1_ g2_2)) <| .o (geI rfl rfl) <| .a rfl <| .nil0) ?_
  replace h := h.symm
  subst h
  refine .kf [(4, bo (decide (t2_2 ≥ 0)))] rfl rfl ?_
  exact .ret rfl
def pds_in.f (a0 : Int) (a1 : Int) (r : Bool) : Prop :=
  r = ((decide (a0 ≥ 0)) && (decide (a0 < a1)))
theorem pds_in.D {a0 a1 r} (h : pds_in.f a0 a1 r) : D Tryz.prog X (.callH 95 [.val (.int .i64 a0), .val (.int .i64 a1)] [] (.val (.bool r)) []) := by
  unfold pds_in.f at h
  refine .enter 12 0 fn95 rfl rfl rfl <| .seq <| .reg0 rfl (.op 0 rfl (asV rfl) <| .nil0) <| .seq ?_
  refine .reg0 (e1 := listEnv [(4, bo ((decide (a0 ≥ 0)) && (decide (a0 < a1))))]) (H1 := []) rfl ?_ ?_
  · refine .m rfl <| .o (geI rfl rfl) <| .m rfl <| ?_
    by_cases c1 : a0 ≥ 0
    · exact (.g rfl (dt c1) (mvV rfl) <| .g rfl (dt c1) (mvV rfl) <| .g rfl (dt c1) (ltI rfl rfl) <| .o (pkTV rfl (dt c1) rfl) <| .a rfl <| .nilL _ ⟨cB rfl (mAndT (dt c1) rfl), trivial⟩)
    · exact (.n rfl (df c1) <| .n rfl (df c1) <| .n rfl (df c1) <| .o (pkFV rfl (df c1) rfl) <| .a rfl <| .nilL _ ⟨cB rfl (mAndF (df c1)), trivial⟩)
  replace h := h.symm
  subst h
  refine .kf [(4, bo ((decide (a0 ≥ 0)) && (decide (a0 < a1))))] rfl rfl ?_
  exact .ret rfl
def slices_IndexFunc_int.b1 (a0 : List Int) (a1 : Int → Bool → Prop) : Int → Rnd Int Unit Int → Prop := fun x1 z1 => if x1 < (a0.length : Int) then (((InR x1 a0.length)) ∧ ∃ t15_5 : Bool, (a1 (rdl a0 x1) t15_5) ∧ if t15_5 = true then (z1 = .ret x1) else (z1 = .next (IntKind.i64.wrap (x1 + 1)))) else (z1 = .exit ())
def slices_IndexFunc_int.f (a0 : List Int) (a1 : Int → Bool → Prop) (r : Int) : Prop :=
  ∃ o1 : Fin Unit Int, Loop (slices_IndexFunc_int.b1 a0 a1) 0 o1 ∧ o1.on (fun _ => r = (-1)) (fun r_ => r = r_)
theorem slices_IndexFunc_int.D {a0 : List Int} {a1 : Int → Bool → Prop} {r : Int} {c1_ : FuncId} {k1_ : List PV} (hg1_ : isGo Tryz.prog c1_ = true) (hk1_ : PV.free deep (.clo c1_ k1_) = true) (hka1_ : k1_.all (PV.free deep) = true) (hq1_ : ∀ x0_ y_, a1 x0_ y_ → D Tryz.prog X (.callH c1_ ([.val (.int .i64 x0_)] ++ k1_) [] (.val (.bool y_)) [])) (h : slices_IndexFunc_int.f a0 a1 r) : D Tryz.prog X (.callH 118 [.rows (a0.map (cInt .i64)), .clo c1_ k1_] [] (.val (.int .i64 r)) []) := by
  unfold slices_IndexFunc_int.f at h
  refine .enter 19 0 fn118 rfl rfl rfl <| .seq <| .reg0 rfl (.op 0 rfl (asV rfl) <| .nil0) <| .seq <| .seq <| .reg0 rfl (.op 0 rfl (mvR rfl) <| .op 0 rfl (lnR (l := a0) sl29 rfl) <| .op 0 rfl (mvV rfl) <| .nil0) <| .block <| .keepL [] [(0, .rows (a0.map (cInt .i64))), (1, .clo c1_ k1_), (7, i6 (a0.length : Int)), (8, i6 0)] [] (by decide) (by decide) ⟨.free rfl rfl, .free rfl hk1_, .free rfl rfl, .free rfl rfl, trivial⟩ trivial ?_
  obtain ⟨o1, hL1, h⟩ := h
  refine .loopB (slices_IndexFunc_int.b1 a0 a1) (fun x1 => listEnv [(0, .rows (a0.map (cInt .i64))), (1, .clo c1_ k1_), (7, i6 (a0.length : Int)), (8, i6 x1)]) (fun x1 => []) (fun _ => listEnv []) (fun _ => []) hL1 (fun r_ => r = r_) ?_ ?_ ?_
  · rintro ⟨⟩ rfl
    try dsimp only [Fin.on] at h
    refine .seq <| .reg0 rfl (.op 0 rfl (asV rfl) <| .nil0) ?_
    replace h := h.symm
    subst h
    refine .kf [(4, i6 (-1))] rfl rfl ?_
    exact .ret rfl
  · rintro r_ rfl
    exact h
  · rintro x1 z1 h hn1 hx1 hr1
    dsimp only [slices_IndexFunc_int.b1] at h
    refine .seq <| .reg0 rfl (.op 0 rfl (ltI rfl rfl) <| .nil0) <| .seq ?_
    by_cases c5 : x1 < (a0.length : Int)
    · rw [if_pos c5] at h
      refine .condT rfl (dt c5) <| .skip <| .seq <| .block <| .seq <| .reg0 rfl (.op 0 rfl (mvV rfl) <| .op 0 rfl (asV rfl) <| .nil0) <| .seq ?_
      obtain ⟨g15_3, h⟩ := h
      obtain ⟨t15_5, g15_5, h⟩ := h
      refine .reg0 rfl (.o (mvF rfl) <| .o (mvR rfl) <| .m rfl <| .o (ixR (l := a0) (lit := (cInt .i64)) sl29 rfl rfl (fun _ => rfl) g15_3.1 g15_3.2) <| .o (ldC rfl sz3 ag3 rfl) <| .callI rfl (callee_of rfl hg1_ rfl) (.pure (allCons rfl hka1_) rfl (hq1_ _ _ g15_5)) <| .nil0) ?_
      by_cases c6 : t15_5 = true
      · rw [if_pos c6] at h
        refine .condT rfl c6 <| .seq <| .reg0 rfl (.op 0 rfl (mvV rfl) <| .op 0 rfl (asV rfl) <| .nil0) ?_
        have q3 := hr1 _ h
        replace q3 := q3.symm
        subst q3
        refine .kf [(4, i6 x1)] rfl rfl ?_
        exact .ret rfl
      · rw [if_neg c6] at h
        refine .condF rfl (nb c6) <| .skip <| .inBlock <| .reg0 rfl (.op 0 rfl (addI rfl rfl) <| .op 0 rfl (mvV rfl) <| .nil0) <| .k [(0, .rows (a0.map (cInt .i64))), (1, .clo c1_ k1_), (7, i6 (a0.length : Int)), (8, i6 (IntKind.i64.wrap (x1 + 1)))] ⟨.free rfl rfl, .free rfl hk1_, .free rfl rfl, .free rfl rfl, trivial⟩ ?_
        exact hn1 _ h
    · rw [if_neg c5] at h
      refine .condF rfl (df c5) <| .exit rfl <| .keepL [] [] [] (by decide) (by decide) trivial trivial ?_
      exact hx1 _ h
def slices_ContainsFunc_int.f (a0 : List Int) (a1 : Int → Bool → Prop) (r : Bool) : Prop :=
  ∃ t2_2 : Int, (slices_IndexFunc_int.f a0 a1 t2_2) ∧ r = (decide (t2_2 ≥ 0))
theorem slices_ContainsFunc_int.D {a0 : List Int} {a1 : Int → Bool → Prop} {r : Bool} {c1_ : FuncId} {k1_ : List PV} (hg1_ : isGo Tryz.prog c1_ = true) (hk1_ : PV.free deep (.clo c1_ k1_) = true) (hka1_ : k1_.all (PV.free deep) = true) (hq1_ : ∀ x0_ y_, a1 x0_ y_ → D Tryz.prog X (.callH c1_ ([.val (.int .i64 x0_)] ++ k1_) [] (.val (.bool y_)) [])) (h : slices_ContainsFunc_int.f a0 a1 r) : D Tryz.prog X (.callH 96 [.rows (a0.map (cInt .i64)), .clo c1_ k1_] [] (.val (.bool r)) []) := by
  unfold slices_ContainsFunc_int.f at h
  refine .enter 9 0 fn96 rfl rfl rfl <| .seq <| .reg0 rfl (.op 0 rfl (asV rfl) <| .nil0) <| .seq ?_
  obtain ⟨t2_2, g2_2, h⟩ := h
  refine .reg0 rfl (.o (mvR rfl) <| .o (mvF rfl) <| .callI rfl (callee_of rfl go118 rfl) (.pure (allCons rfl (allCons hk1_ rfl)) rfl (slices_IndexFunc_int.D hg1_ hk1_ hka1_ hq1_ g2_2)) <| .o (geI rfl rfl) <| .a rfl <| .nil0) ?_
  replace h := h.symm
  subst h
  refine .kf [(4, bo (decide (t2_2 ≥ 0)))] rfl rfl ?_
  exact .ret rfl
def pds_rule_1.f (a0 : Int) (f0 : TPds) (r : Bool) : Prop :=
  ∃ t2_3 : Bool, (pds_in.f a0 f0.Symbols t2_3) ∧ r = (!t2_3)
theorem pds_rule_1.D {a0 f0 r} (h : pds_rule_1.f a0 f0 r) : D Tryz.prog X (.callH 97 [.val (.int .i64 a0), .cptr (TPds.lit f0) 0] [] (.val (.bool r)) []) := by
  unfold pds_rule_1.f at h
  refine .enter 9 0 fn97 rfl rfl rfl <| .seq <| .reg0 rfl (.op 0 rfl (asV rfl) <| .nil0) <| .seq ?_
  obtain ⟨t2_3, g2_3, h⟩ := h
  refine .reg0 rfl (.m rfl <| .o (faC fa28_2 rfl) <| .o (ldC rfl sz3 ag3 rfl) <| .c rfl go95 rfl rfl rfl (pds_in.D g2_3) <| .o (notB rfl) <| .a rfl <| .nil0) ?_
  replace h := h.symm
  subst h
  refine .kf [(3, bo (!t2_3))] rfl rfl ?_
  exact .ret rfl
def pds_rule.f (a0 : TPds) (a1 : TRule) (r : Bool) : Prop :=
  ∃ t2_4 : Bool, (pds_in.f a1.P a0.States t2_4) ∧ ∃ t2_10 : Bool, ((t2_4 = true) → pds_in.f a1.Q a0.States t2_10) ∧ ∃ t2_17 : Bool, ((t2_4 = true) → (t2_10 = true) → pds_in.f a1.G a0.Symbols t2_17) ∧ ∃ t2_29 : Bool, ((t2_4 = true) → (t2_10 = true) → (t2_17 = true) → ((a1.W.length : Int) ≤ 4096) → slices_ContainsFunc_int.f a1.W (fun x0_ y_ => pds_rule_1.f x0_ a0 y_) t2_29) ∧ r = (t2_4 && (t2_10 && (t2_17 && ((decide ((a1.W.length : Int) ≤ 4096)) && (!t2_29)))))
theorem pds_rule.D {a0 a1 r} (h : pds_rule.f a0 a1 r) : D Tryz.prog X (.callH 66 [.agg (TPds.lit a0), .agg (TRule.lit a1)] [] (.val (.bool r)) []) := by
  unfold pds_rule.f at h
  refine .enter 37 0 fn66 rfl rfl rfl <| .seq <| .room 0 <| .room 0 <| .reg0 rfl (.op 0 rfl (bxP (s := 6) (cs := (TPds.lit a0)) rfl ⟨rfl, by decide, rfl⟩ rfl) <| .op 1 rfl (bxP (s := 10) (cs := (TRule.lit a1)) rfl ⟨rfl, by decide, rfl⟩ rfl) <| .op 0 rfl (asV rfl) <| .nil0) <| .seq ?_
  obtain ⟨t2_4, g2_4, h⟩ := h
  obtain ⟨t2_10, g2_10, h⟩ := h
  obtain ⟨t2_17, g2_17, h⟩ := h
  obtain ⟨t2_29, g2_29, h⟩ := h
  refine .reg0 (e1 := listEnv [(4, bo (t2_4 && (t2_10 && (t2_17 && ((decide ((a1.W.length : Int) ≤ 4096)) && (!t2_29))))))]) (H1 := [⟨6, [(TPds.lit a0)], 0, none⟩, ⟨10, [(TRule.lit a1)], 0, none⟩]) rfl ?_ ?_
  · refine .o (faP fa70_0 rfl) <| .o (ldP rfl sz3 ag3 rfl) <| .o (faP fa28_1 rfl) <| .o (ldP rfl sz3 ag3 rfl) <| .c rfl go95 rfl rfl rfl (pds_in.D g2_4) <| .m rfl <| ?_
    by_cases c1 : t2_4 = true
    · refine .g rfl c1 (faP fa70_2 rfl) <| .g rfl c1 (ldP rfl sz3 ag3 rfl) <| .g rfl c1 (faP fa28_1 rfl) <| .g rfl c1 (ldP rfl sz3 ag3 rfl) <| .callI (gT rfl rfl rfl c1) (callee_of rfl go95 rfl) (.pure rfl rfl (pds_in.D (g2_10 c1))) <| .o (pkTV rfl c1 rfl) <| .m rfl <| ?_
      by_cases c2 : t2_10 = true
      · refine .g rfl c2 (faP fa70_1 rfl) <| .g rfl c2 (ldP rfl sz3 ag3 rfl) <| .g rfl c2 (faP fa28_2 rfl) <| .g rfl c2 (ldP rfl sz3 ag3 rfl) <| .callI (gT rfl rfl rfl c2) (callee_of rfl go95 rfl) (.pure rfl rfl (pds_in.D (g2_17 c1 c2))) <| .o (pkTV rfl c2 rfl) <| .m rfl <| ?_
        by_cases c3 : t2_17 = true
        · refine .g rfl c3 (faP fa70_3 rfl) <| .g rfl c3 (ldP rfl sz29 ag29 rfl) <| .g rfl c3 (lnR (l := a1.W) sl29 rfl) <| .g rfl c3 (leI rfl rfl) <| .o (pkTV rfl c3 rfl) <| .m rfl <| ?_
          by_cases c4 : (a1.W.length : Int) ≤ 4096
          · exact (.g rfl (dt c4) (faP fa70_3 rfl) <| .g rfl (dt c4) (ldP rfl sz29 ag29 rfl) <| .g rfl (dt c4) (mkF rfl) <| .callI (gT rfl rfl rfl (dt c4)) (callee_of rfl go96 rfl) (.lendC (args' := [.rows (a1.W.map (cInt .i64)), .clo 97 [.cptr (TPds.lit a0) 0]])  [0] false (.cons (.free rfl rfl) <| .cons (cClo (.cons (cFixP rfl rfl (.cons (.free rfl rfl) <| .cons (.free rfl rfl) <| .cons (.free rfl rfl) <| .cons (.free rfl rfl) <| .cons (.free rfl rfl) <| .cons (.free rfl rfl) <| .nil)) <| .nil)) <| .nil) (by decide) rfl rfl rfl rfl (slices_ContainsFunc_int.D (k1_ := [.cptr (TPds.lit a0) 0]) go97 rfl rfl (fun x0_ y_ h_ => pds_rule_1.D h_) (g2_29 c1 c2 c3 c4))) <| .g rfl (dt c4) (notB rfl) <| .o (pkTV rfl (dt c4) rfl) <| .a rfl <| .nilL _ ⟨cB rfl (mAndT c1 (mAndT c2 (mAndT c3 (mAndT (dt c4) rfl)))), trivial⟩)
          · exact (.n rfl (df c4) <| .n rfl (df c4) <| .n rfl (df c4) <| .n rfl (df c4) <| .n rfl (df c4) <| .o (pkFV rfl (df c4) rfl) <| .a rfl <| .nilL _ ⟨cB rfl (mAndT c1 (mAndT c2 (mAndT c3 (mAndF (df c4))))), trivial⟩)
        · exact (.n rfl (nb c3) <| .n rfl (nb c3) <| .n rfl (nb c3) <| .n rfl (nb c3) <| .o (pkFV rfl (nb c3) rfl) <| .m rfl <| .n rfl rfl <| .n rfl rfl <| .n rfl rfl <| .n rfl rfl <| .n rfl rfl <| .o (pkFV rfl rfl rfl) <| .a rfl <| .nilL _ ⟨cB rfl (mAndT c1 (mAndT c2 (mAndF (nb c3)))), trivial⟩)
      · exact (.n rfl (nb c2) <| .n rfl (nb c2) <| .n rfl (nb c2) <| .n rfl (nb c2) <| .n rfl (nb c2) <| .o (pkFV rfl (nb c2) rfl) <| .m rfl <| .n rfl rfl <| .n rfl rfl <| .n rfl rfl <| .n rfl rfl <| .o (pkFV rfl rfl rfl) <| .m rfl <| .n rfl rfl <| .n rfl rfl <| .n rfl rfl <| .n rfl rfl <| .n rfl rfl <| .o (pkFV rfl rfl rfl) <| .a rfl <| .nilL _ ⟨cB rfl (mAndT c1 (mAndF (nb c2))), trivial⟩)
    · exact (.n rfl (nb c1) <| .n rfl (nb c1) <| .n rfl (nb c1) <| .n rfl (nb c1) <| .n rfl (nb c1) <| .o (pkFV rfl (nb c1) rfl) <| .m rfl <| .n rfl rfl <| .n rfl rfl <| .n rfl rfl <| .n rfl rfl <| .n rfl rfl <| .o (pkFV rfl rfl rfl) <| .m rfl <| .n rfl rfl <| .n rfl rfl <| .n rfl rfl <| .n rfl rfl <| .o (pkFV rfl rfl rfl) <| .m rfl <| .n rfl rfl <| .n rfl rfl <| .n rfl rfl <| .n rfl rfl <| .n rfl rfl <| .o (pkFV rfl rfl rfl) <| .a rfl <| .nilL _ ⟨cB rfl (mAndF (nb c1)), trivial⟩)
  replace h := h.symm
  subst h
  refine .kf [(4, bo (t2_4 && (t2_10 && (t2_17 && ((decide ((a1.W.length : Int) ≤ 4096)) && (!t2_29))))))] rfl rfl ?_
  exact .ret rfl
def pds_Check_1.f (a0 : TRule) (f0 : TPds) (r : Bool) : Prop :=
  ∃ t2_2 : Bool, (pds_rule.f f0 a0 t2_2) ∧ r = (!t2_2)
theorem pds_Check_1.D {a0 f0 r} (h : pds_Check_1.f a0 f0 r) : D Tryz.prog X (.callH 65 [.agg (TRule.lit a0), .cptr (TPds.lit f0) 0] [] (.val (.bool r)) []) := by
  unfold pds_Check_1.f at h
  refine .enter 8 0 fn65 rfl rfl rfl <| .seq <| .room 0 <| .reg0 rfl (.op 0 rfl (bxP (s := 10) (cs := (TRule.lit a0)) rfl ⟨rfl, by decide, rfl⟩ rfl) <| .op 0 rfl (asV rfl) <| .nil0) <| .seq ?_
  obtain ⟨t2_2, g2_2, h⟩ := h
  refine .reg0 rfl (.o (ldCG rfl sz28 ag28 rfl) <| .o (ldG rfl sz70 ag70 rfl) <| .c rfl go66 rfl rfl rfl (pds_rule.D g2_2) <| .o (notB rfl) <| .a rfl <| .nil0) ?_
  replace h := h.symm
  subst h
  refine .kf [(3, bo (!t2_2))] rfl rfl ?_
  exact .ret rfl
def slices_IndexFunc_Weight.b1 (a0 : List TWeight) (a1 : TWeight → Bool → Prop) : Int → Rnd Int Unit Int → Prop := fun x1 z1 => if x1 < (a0.length : Int) then (((InR x1 a0.length)) ∧ ∃ t15_5 : Bool, (a1 (rdl a0 x1) t15_5) ∧ if t15_5 = true then (z1 = .ret x1) else (z1 = .next (IntKind.i64.wrap (x1 + 1)))) else (z1 = .exit ())
def slices_IndexFunc_Weight.f (a0 : List TWeight) (a1 : TWeight → Bool → Prop) (r : Int) : Prop :=
  ∃ o1 : Fin Unit Int, Loop (slices_IndexFunc_Weight.b1 a0 a1) 0 o1 ∧ o1.on (fun _ => r = (-1)) (fun r_ => r = r_)
theorem slices_IndexFunc_Weight.D {a0 : List TWeight} {a1 : TWeight → Bool → Prop} {r : Int} {c1_ : FuncId} {k1_ : List PV} (hg1_ : isGo Tryz.prog c1_ = true) (hk1_ : PV.free deep (.clo c1_ k1_) = true) (hka1_ : k1_.all (PV.free deep) = true) (hq1_ : ∀ x0_ y_, a1 x0_ y_ → D Tryz.prog X (.callH c1_ ([.agg (TWeight.lit x0_)] ++ k1_) [] (.val (.bool y_)) [])) (h : slices_IndexFunc_Weight.f a0 a1 r) : D Tryz.prog X (.callH 102 [.rows (a0.map TWeight.cells), .clo c1_ k1_] [] (.val (.int .i64 r)) []) := by
  unfold slices_IndexFunc_Weight.f at h
  refine .enter 19 0 fn102 rfl rfl rfl <| .seq <| .reg0 rfl (.op 0 rfl (asV rfl) <| .nil0) <| .seq <| .seq <| .reg0 rfl (.op 0 rfl (mvR rfl) <| .op 0 rfl (lnR (l := a0) sl37 rfl) <| .op 0 rfl (mvV rfl) <| .nil0) <| .block <| .keepL [] [(0, .rows (a0.map TWeight.cells)), (1, .clo c1_ k1_), (7, i6 (a0.length : Int)), (8, i6 0)] [] (by decide) (by decide) ⟨.free rfl rfl, .free rfl hk1_, .free rfl rfl, .free rfl rfl, trivial⟩ trivial ?_
  obtain ⟨o1, hL1, h⟩ := h
  refine .loopB (slices_IndexFunc_Weight.b1 a0 a1) (fun x1 => listEnv [(0, .rows (a0.map TWeight.cells)), (1, .clo c1_ k1_), (7, i6 (a0.length : Int)), (8, i6 x1)]) (fun x1 => []) (fun _ => listEnv []) (fun _ => []) hL1 (fun r_ => r = r_) ?_ ?_ ?_
  · rintro ⟨⟩ rfl
    try dsimp only [Fin.on] at h
    refine .seq <| .reg0 rfl (.op 0 rfl (asV rfl) <| .nil0) ?_
    replace h := h.symm
    subst h
    refine .kf [(4, i6 (-1))] rfl rfl ?_
    exact .ret rfl
  · rintro r_ rfl
    exact h
  · rintro x1 z1 h hn1 hx1 hr1
    dsimp only [slices_IndexFunc_Weight.b1] at h
    refine .seq <| .reg0 rfl (.op 0 rfl (ltI rfl rfl) <| .nil0) <| .seq ?_
    by_cases c5 : x1 < (a0.length : Int)
    · rw [if_pos c5] at h
      refine .condT rfl (dt c5) <| .skip <| .seq <| .block <| .seq <| .reg0 rfl (.op 0 rfl (mvV rfl) <| .op 0 rfl (asV rfl) <| .nil0) <| .seq ?_
      obtain ⟨g15_3, h⟩ := h
      obtain ⟨t15_5, g15_5, h⟩ := h
      refine .reg0 rfl (.o (mvF rfl) <| .o (mvR rfl) <| .m rfl <| .o (ixR (l := a0) (lit := TWeight.lit) sl37 rfl rfl TWeight.cells_lit g15_3.1 g15_3.2) <| .o (ldCG rfl sz39 ag39 rfl) <| .callI rfl (callee_of rfl hg1_ rfl) (.pure (allCons rfl hka1_) rfl (hq1_ _ _ g15_5)) <| .nil0) ?_
      by_cases c6 : t15_5 = true
      · rw [if_pos c6] at h
        refine .condT rfl c6 <| .seq <| .reg0 rfl (.op 0 rfl (mvV rfl) <| .op 0 rfl (asV rfl) <| .nil0) ?_
        have q3 := hr1 _ h
        replace q3 := q3.symm
        subst q3
        refine .kf [(4, i6 x1)] rfl rfl ?_
        exact .ret rfl
      · rw [if_neg c6] at h
        refine .condF rfl (nb c6) <| .skip <| .inBlock <| .reg0 rfl (.op 0 rfl (addI rfl rfl) <| .op 0 rfl (mvV rfl) <| .nil0) <| .k [(0, .rows (a0.map TWeight.cells)), (1, .clo c1_ k1_), (7, i6 (a0.length : Int)), (8, i6 (IntKind.i64.wrap (x1 + 1)))] ⟨.free rfl rfl, .free rfl hk1_, .free rfl rfl, .free rfl rfl, trivial⟩ ?_
        exact hn1 _ h
    · rw [if_neg c5] at h
      refine .condF rfl (df c5) <| .exit rfl <| .keepL [] [] [] (by decide) (by decide) trivial trivial ?_
      exact hx1 _ h
def slices_ContainsFunc_Weight.f (a0 : List TWeight) (a1 : TWeight → Bool → Prop) (r : Bool) : Prop :=
  ∃ t2_2 : Int, (slices_IndexFunc_Weight.f a0 a1 t2_2) ∧ r = (decide (t2_2 ≥ 0))
theorem slices_ContainsFunc_Weight.D {a0 : List TWeight} {a1 : TWeight → Bool → Prop} {r : Bool} {c1_ : FuncId} {k1_ : List PV} (hg1_ : isGo Tryz.prog c1_ = true) (hk1_ : PV.free deep (.clo c1_ k1_) = true) (hka1_ : k1_.all (PV.free deep) = true) (hq1_ : ∀ x0_ y_, a1 x0_ y_ → D Tryz.prog X (.callH c1_ ([.agg (TWeight.lit x0_)] ++ k1_) [] (.val (.bool y_)) [])) (h : slices_ContainsFunc_Weight.f a0 a1 r) : D Tryz.prog X (.callH 74 [.rows (a0.map TWeight.cells), .clo c1_ k1_] [] (.val (.bool r)) []) := by
  unfold slices_ContainsFunc_Weight.f at h
  refine .enter 9 0 fn74 rfl rfl rfl <| .seq <| .reg0 rfl (.op 0 rfl (asV rfl) <| .nil0) <| .seq ?_
  obtain ⟨t2_2, g2_2, h⟩ := h
  refine .reg0 rfl (.o (mvR rfl) <| .o (mvF rfl) <| .callI rfl (callee_of rfl go102 rfl) (.pure (allCons rfl (allCons hk1_ rfl)) rfl (slices_IndexFunc_Weight.D hg1_ hk1_ hka1_ hq1_ g2_2)) <| .o (geI rfl rfl) <| .a rfl <| .nil0) ?_
  replace h := h.symm
  subst h
  refine .kf [(4, bo (decide (t2_2 ≥ 0)))] rfl rfl ?_
  exact .ret rfl
def weight_bare.j1 : (Int × Int × (List Int) × (List TCell) × (List TWeight)) → Bool → Prop := fun (x20, x21, x22, x23, x24) r => r = ((x20 == 0) && ((x21 == 0) && ((IntKind.i64.wrap ((IntKind.i64.wrap ((x22.length : Int) + (x23.length : Int))) + (x24.length : Int))) == 0)))
def weight_bare.f (a0 : TWeight) (a1 : Int) (r : Bool) : Prop :=
  if a1 = 2 then (weight_bare.j1 (0, a0.Facts.Gen, a0.Facts.Rows, a0.Cells, a0.Parts) r) else (if a1 = 3 then (weight_bare.j1 (a0.Cost, 0, [], a0.Cells, a0.Parts) r) else (if a1 = 4 then (weight_bare.j1 (a0.Cost, a0.Facts.Gen, a0.Facts.Rows, [], a0.Parts) r) else (if a1 = 5 then (weight_bare.j1 (a0.Cost, a0.Facts.Gen, a0.Facts.Rows, a0.Cells, []) r) else (weight_bare.j1 (a0.Cost, a0.Facts.Gen, a0.Facts.Rows, a0.Cells, a0.Parts) r))))
theorem weight_bare.D {a0 a1 r} (h : weight_bare.f a0 a1 r) : D Tryz.prog X (.callH 103 [.agg (TWeight.lit a0), .val (.int .i64 a1)] [] (.val (.bool r)) []) := by
  unfold weight_bare.f at h
  refine .enter 43 0 fn103 rfl rfl rfl <| .seq <| .room 0 <| .reg0 rfl (.op 0 rfl (bxP (s := 6) (cs := (TWeight.lit a0)) rfl ⟨rfl, by decide, rfl⟩ rfl) <| .op 0 rfl (asV rfl) <| .nil0) <| .seq <| .seq <| .reg0 rfl (.op 0 rfl (mvV rfl) <| .nil0) <| .block <| .seq <| .reg0 rfl (.op 0 rfl (eqI rfl rfl) <| .op 0 rfl (asV rfl) <| .nil0) ?_
  refine .consJ (fun s_ => weight_bare.j1 s_ r) (fun (x20, x21, x22, x23, x24) => listEnv [(2, .ptr 0 1 6 0 0)]) (fun (x20, x21, x22, x23, x24) => [⟨6, [[bo a0.Zero, i6 x20, u6 x21, .rows (x22.map (cInt .u64)), .rows (x23.map TCell.cells), .rows (x24.map TWeight.cells)]], 0, none⟩]) ?_ fun hJ1 => ?_
  · rintro ⟨x20, x21, x22, x23, x24⟩ h
    unfold weight_bare.j1 at h
    try dsimp only at h
    refine .inBlock <| .seq ?_
    refine .reg0 (e1 := listEnv [(4, bo ((x20 == 0) && ((x21 == 0) && ((IntKind.i64.wrap ((IntKind.i64.wrap ((x22.length : Int) + (x23.length : Int))) + (x24.length : Int))) == 0))))]) (H1 := [⟨6, [[bo a0.Zero, i6 x20, u6 x21, .rows (x22.map (cInt .u64)), .rows (x23.map TCell.cells), .rows (x24.map TWeight.cells)]], 0, none⟩]) rfl ?_ ?_
    · refine .o (faP fa39_1 rfl) <| .o (ldP rfl sz3 ag3 rfl) <| .o (eqI rfl rfl) <| .m rfl <| ?_
      by_cases c13 : x20 = 0
      · refine .g rfl (bt c13) (faP fa39_2 rfl) <| .g rfl (bt c13) (faP fa35_0 rfl) <| .g rfl (bt c13) (ldP rfl sz32 ag32 rfl) <| .g rfl (bt c13) (eqI rfl rfl) <| .o (pkTV rfl (bt c13) rfl) <| .m rfl <| ?_
        by_cases c14 : x21 = 0
        · exact (.g rfl (bt c14) (faP fa39_2 rfl) <| .g rfl (bt c14) (faP fa35_1 rfl) <| .g rfl (bt c14) (ldP rfl sz33 ag33 rfl) <| .g rfl (bt c14) (lnR (l := x22) sl33 rfl) <| .g rfl (bt c14) (faP fa39_3 rfl) <| .g rfl (bt c14) (ldP rfl sz36 ag36 rfl) <| .g rfl (bt c14) (lnR (l := x23) sl36 rfl) <| .g rfl (bt c14) (addI rfl rfl) <| .g rfl (bt c14) (faP fa39_4 rfl) <| .g rfl (bt c14) (ldP rfl sz37 ag37 rfl) <| .g rfl (bt c14) (lnR (l := x24) sl37 rfl) <| .g rfl (bt c14) (addI rfl rfl) <| .g rfl (bt c14) (eqI rfl rfl) <| .o (pkTV rfl (bt c14) rfl) <| .a rfl <| .nilL _ ⟨cB rfl (mAndT (bt c13) (mAndT (bt c14) rfl)), trivial⟩)
        · exact (.n rfl (bn c14) <| .n rfl (bn c14) <| .n rfl (bn c14) <| .n rfl (bn c14) <| .n rfl (bn c14) <| .n rfl (bn c14) <| .n rfl (bn c14) <| .n rfl (bn c14) <| .n rfl (bn c14) <| .n rfl (bn c14) <| .n rfl (bn c14) <| .n rfl (bn c14) <| .n rfl (bn c14) <| .o (pkFV rfl (bn c14) rfl) <| .a rfl <| .nilL _ ⟨cB rfl (mAndT (bt c13) (mAndF (bn c14))), trivial⟩)
      · exact (.n rfl (bn c13) <| .n rfl (bn c13) <| .n rfl (bn c13) <| .n rfl (bn c13) <| .o (pkFV rfl (bn c13) rfl) <| .m rfl <| .n rfl rfl <| .n rfl rfl <| .n rfl rfl <| .n rfl rfl <| .n rfl rfl <| .n rfl rfl <| .n rfl rfl <| .n rfl rfl <| .n rfl rfl <| .n rfl rfl <| .n rfl rfl <| .n rfl rfl <| .n rfl rfl <| .o (pkFV rfl rfl rfl) <| .a rfl <| .nilL _ ⟨cB rfl (mAndF (bn c13)), trivial⟩)
    replace h := h.symm
    subst h
    refine .kf [(4, bo ((x20 == 0) && ((x21 == 0) && ((IntKind.i64.wrap ((IntKind.i64.wrap ((x22.length : Int) + (x23.length : Int))) + (x24.length : Int))) == 0))))] rfl rfl ?_
    exact .ret rfl
  · by_cases c15 : a1 = 2
    · rw [if_pos c15] at h
      refine .condT rfl (bt c15) <| .reg0 rfl (.o (faP fa39_1 rfl) <| .o (stB (cs0 := (TWeight.lit a0)) (cs := [i6 0]) (cs1 := [bo a0.Zero, i6 0, u6 a0.Facts.Gen, .rows (a0.Facts.Rows.map (cInt .u64)), .rows (a0.Cells.map TCell.cells), .rows (a0.Parts.map TWeight.cells)]) rfl rfl sz3 rfl ⟨Nat.le_of_ble_eq_true rfl, rfl⟩ rfl) <| .nil0) <| .keepL [0] [(2, .ptr 0 1 6 0 0)] [⟨6, [[bo a0.Zero, i6 0, u6 a0.Facts.Gen, .rows (a0.Facts.Rows.map (cInt .u64)), .rows (a0.Cells.map TCell.cells), .rows (a0.Parts.map TWeight.cells)]], 0, none⟩] (by decide) (by decide) ⟨.ptr rfl, trivial⟩ ⟨⟨_, rfl, bcBox (all2_free rfl)⟩, trivial⟩ ?_
      exact hJ1 _ h
    · rw [if_neg c15] at h
      refine .condF rfl (bn c15) <| .seq <| .reg0 rfl (.op 0 rfl (eqI rfl rfl) <| .op 0 rfl (asV rfl) <| .nil0) ?_
      by_cases c16 : a1 = 3
      · rw [if_pos c16] at h
        refine .condT rfl (bt c16) <| .reg0 rfl (.o (bldS (cs := [u6 0, nul]) ze35 pl35 rfl rfl) <| .o (faP fa39_2 rfl) <| .o (stB (cs0 := (TWeight.lit a0)) (cs := [u6 0, nul]) (cs1 := [bo a0.Zero, i6 a0.Cost, u6 0, nul, .rows (a0.Cells.map TCell.cells), .rows (a0.Parts.map TWeight.cells)]) rfl rfl sz35 rfl ⟨Nat.le_of_ble_eq_true rfl, rfl⟩ rfl) <| .nil0) <| .keepL [0] [(2, .ptr 0 1 6 0 0)] [⟨6, [[bo a0.Zero, i6 a0.Cost, u6 0, .rows ([].map (cInt .u64)), .rows (a0.Cells.map TCell.cells), .rows (a0.Parts.map TWeight.cells)]], 0, none⟩] (by decide) (by decide) ⟨.ptr rfl, trivial⟩ ⟨⟨_, rfl, bcBox (.cons (.free rfl rfl) <| .cons (.free rfl rfl) <| .cons (.free rfl rfl) <| .cons (.nil) <| .cons (.free rfl rfl) <| .cons (.free rfl rfl) <| .nil)⟩, trivial⟩ ?_
        exact hJ1 _ h
      · rw [if_neg c16] at h
        refine .condF rfl (bn c16) <| .seq <| .reg0 rfl (.op 0 rfl (eqI rfl rfl) <| .op 0 rfl (asV rfl) <| .nil0) ?_
        by_cases c17 : a1 = 4
        · rw [if_pos c17] at h
          refine .condT rfl (bt c17) <| .reg0 rfl (.o (faP fa39_3 rfl) <| .o (stB (cs0 := (TWeight.lit a0)) (cs := [nul]) (cs1 := [bo a0.Zero, i6 a0.Cost, u6 a0.Facts.Gen, .rows (a0.Facts.Rows.map (cInt .u64)), nul, .rows (a0.Parts.map TWeight.cells)]) rfl rfl sz36 rfl ⟨Nat.le_of_ble_eq_true rfl, rfl⟩ rfl) <| .nil0) <| .keepL [0] [(2, .ptr 0 1 6 0 0)] [⟨6, [[bo a0.Zero, i6 a0.Cost, u6 a0.Facts.Gen, .rows (a0.Facts.Rows.map (cInt .u64)), .rows ([].map TCell.cells), .rows (a0.Parts.map TWeight.cells)]], 0, none⟩] (by decide) (by decide) ⟨.ptr rfl, trivial⟩ ⟨⟨_, rfl, bcBox (.cons (.free rfl rfl) <| .cons (.free rfl rfl) <| .cons (.free rfl rfl) <| .cons (.free rfl rfl) <| .cons (.nil) <| .cons (.free rfl rfl) <| .nil)⟩, trivial⟩ ?_
          exact hJ1 _ h
        · rw [if_neg c17] at h
          refine .condF rfl (bn c17) <| .seq <| .reg0 rfl (.op 0 rfl (eqI rfl rfl) <| .op 0 rfl (asV rfl) <| .nil0) ?_
          by_cases c18 : a1 = 5
          · rw [if_pos c18] at h
            refine .condT rfl (bt c18) <| .reg0 rfl (.o (faP fa39_4 rfl) <| .o (stB (cs0 := (TWeight.lit a0)) (cs := [nul]) (cs1 := [bo a0.Zero, i6 a0.Cost, u6 a0.Facts.Gen, .rows (a0.Facts.Rows.map (cInt .u64)), .rows (a0.Cells.map TCell.cells), nul]) rfl rfl sz37 rfl ⟨Nat.le_of_ble_eq_true rfl, rfl⟩ rfl) <| .nil0) <| .keepL [0] [(2, .ptr 0 1 6 0 0)] [⟨6, [[bo a0.Zero, i6 a0.Cost, u6 a0.Facts.Gen, .rows (a0.Facts.Rows.map (cInt .u64)), .rows (a0.Cells.map TCell.cells), .rows ([].map TWeight.cells)]], 0, none⟩] (by decide) (by decide) ⟨.ptr rfl, trivial⟩ ⟨⟨_, rfl, bcBox (.cons (.free rfl rfl) <| .cons (.free rfl rfl) <| .cons (.free rfl rfl) <| .cons (.free rfl rfl) <| .cons (.free rfl rfl) <| .cons (.nil) <| .nil)⟩, trivial⟩ ?_
            exact hJ1 _ h
          · rw [if_neg c18] at h
            refine .condF rfl (bn c18) <| .skip <| .keepL [0] [(2, .ptr 0 1 6 0 0)] [⟨6, [(TWeight.lit a0)], 0, none⟩] (by decide) (by decide) ⟨.ptr rfl, trivial⟩ ⟨⟨_, rfl, bcBox (all2_free rfl)⟩, trivial⟩ ?_
            exact hJ1 _ h
def cost_checks.b1 (a0 : Int) (a1 : List Int) : Int → Rnd Int Unit Int → Prop := fun x1 z1 => if x1 < (a1.length : Int) then (((InR x1 a1.length)) ∧ if ((decide ((rdl a1 x1) < (-1))) || (decide ((rdl a1 x1) > a0))) = true then (z1 = .ret 21) else (z1 = .next (IntKind.i64.wrap (x1 + 1)))) else (z1 = .exit ())
def cost_checks.f (a0 : Int) (a1 : List Int) (r : Int) : Prop :=
  if ((decide (a0 < 0)) || (decide (a0 > 1048576))) = true then (r = 20) else (∃ o1 : Fin Unit Int, Loop (cost_checks.b1 a0 a1) 0 o1 ∧ o1.on (fun _ => r = 0) (fun r_ => r = r_))
theorem cost_checks.D {a0 a1 r} (h : cost_checks.f a0 a1 r) : D Tryz.prog X (.callH 107 [.val (.int .i64 a0), .rows (a1.map (cInt .i64))] [] (.val (.int .i64 r)) []) := by
  unfold cost_checks.f at h
  refine .enter 27 0 fn107 rfl rfl rfl <| .seq <| .reg0 rfl (.op 0 rfl (asV rfl) <| .nil0) <| .seq <| .seq ?_
  refine .reg0 (e1 := listEnv [(0, i6 a0), (1, .rows (a1.map (cInt .i64))), (12, bo ((decide (a0 < 0)) || (decide (a0 > 1048576))))]) (H1 := []) rfl ?_ ?_
  · refine .m rfl <| .o (ltI rfl rfl) <| .m rfl <| ?_
    by_cases c1 : a0 < 0
    · exact (.n rfl (dt c1) <| .n rfl (dt c1) <| .o (pkTV rfl (dt c1) rfl) <| .nilL _ ⟨.free rfl rfl, .free rfl rfl, cB rfl (mOrT (dt c1)), trivial⟩)
    · exact (.g rfl (df c1) (mvV rfl) <| .g rfl (df c1) (gtI rfl rfl) <| .o (pkFV rfl (df c1) rfl) <| .nilL _ ⟨.free rfl rfl, .free rfl rfl, cB rfl (mOrF (df c1) rfl), trivial⟩)
  by_cases c2 : ((decide (a0 < 0)) || (decide (a0 > 1048576))) = true
  · rw [if_pos c2] at h
    refine .condT rfl c2 <| .seq <| .reg0 rfl (.op 0 rfl (asV rfl) <| .nil0) ?_
    replace h := h.symm
    subst h
    refine .kf [(4, i6 20)] rfl rfl ?_
    exact .ret rfl
  · rw [if_neg c2] at h
    refine .condF rfl (nb c2) <| .skip <| .seq <| .seq <| .reg0 rfl (.op 0 rfl (mvR rfl) <| .op 0 rfl (lnR (l := a1) sl29 rfl) <| .op 0 rfl (mvV rfl) <| .nil0) <| .block <| .keepL [] [(0, i6 a0), (13, .rows (a1.map (cInt .i64))), (14, i6 (a1.length : Int)), (15, i6 0)] [] (by decide) (by decide) ⟨.free rfl rfl, .free rfl rfl, .free rfl rfl, .free rfl rfl, trivial⟩ trivial ?_
    obtain ⟨o1, hL1, h⟩ := h
    refine .loopB (cost_checks.b1 a0 a1) (fun x1 => listEnv [(0, i6 a0), (13, .rows (a1.map (cInt .i64))), (14, i6 (a1.length : Int)), (15, i6 x1)]) (fun x1 => []) (fun _ => listEnv []) (fun _ => []) hL1 (fun r_ => r = r_) ?_ ?_ ?_
    · rintro ⟨⟩ rfl
      try dsimp only [Fin.on] at h
      refine .seq <| .reg0 rfl (.op 0 rfl (asV rfl) <| .nil0) ?_
      replace h := h.symm
      subst h
      refine .kf [(4, i6 0)] rfl rfl ?_
      exact .ret rfl
    · rintro r_ rfl
      exact h
    · rintro x1 z1 h hn1 hx1 hr1
      dsimp only [cost_checks.b1] at h
      refine .seq <| .reg0 rfl (.op 0 rfl (ltI rfl rfl) <| .nil0) <| .seq ?_
      by_cases c9 : x1 < (a1.length : Int)
      · rw [if_pos c9] at h
        refine .condT rfl (dt c9) <| .skip <| .seq <| .block <| .seq ?_
        obtain ⟨g16_0, h⟩ := h
        refine .reg0 rfl (.o (ixR (l := a1) (lit := (cInt .i64)) sl29 rfl rfl (fun _ => rfl) g16_0.1 g16_0.2) <| .o (ldC rfl sz3 ag3 rfl) <| .a rfl <| .nil0) <| .seq ?_
        refine .reg0 (e1 := listEnv [(0, i6 a0), (13, .rows (a1.map (cInt .i64))), (14, i6 (a1.length : Int)), (15, i6 x1), (25, bo ((decide ((rdl a1 x1) < (-1))) || (decide ((rdl a1 x1) > a0))))]) (H1 := []) rfl ?_ ?_
        · refine .m rfl <| .o (ltI rfl rfl) <| .m rfl <| ?_
          by_cases c10 : (rdl a1 x1) < (-1)
          · exact (.n rfl (dt c10) <| .n rfl (dt c10) <| .n rfl (dt c10) <| .o (pkTV rfl (dt c10) rfl) <| .nilL _ ⟨.free rfl rfl, .free rfl rfl, .free rfl rfl, .free rfl rfl, cB rfl (mOrT (dt c10)), trivial⟩)
          · exact (.g rfl (df c10) (mvV rfl) <| .g rfl (df c10) (mvV rfl) <| .g rfl (df c10) (gtI rfl rfl) <| .o (pkFV rfl (df c10) rfl) <| .nilL _ ⟨.free rfl rfl, .free rfl rfl, .free rfl rfl, .free rfl rfl, cB rfl (mOrF (df c10) rfl), trivial⟩)
        by_cases c11 : ((decide ((rdl a1 x1) < (-1))) || (decide ((rdl a1 x1) > a0))) = true
        · rw [if_pos c11] at h
          refine .condT rfl c11 <| .seq <| .reg0 rfl (.op 0 rfl (asV rfl) <| .nil0) ?_
          have q3 := hr1 _ h
          replace q3 := q3.symm
          subst q3
          refine .kf [(4, i6 21)] rfl rfl ?_
          exact .ret rfl
        · rw [if_neg c11] at h
          refine .condF rfl (nb c11) <| .skip <| .inBlock <| .reg0 rfl (.op 0 rfl (addI rfl rfl) <| .op 0 rfl (mvV rfl) <| .nil0) <| .kf [(0, i6 a0), (13, .rows (a1.map (cInt .i64))), (14, i6 (a1.length : Int)), (15, i6 (IntKind.i64.wrap (x1 + 1)))] rfl rfl ?_
          exact hn1 _ h
      · rw [if_neg c9] at h
        refine .condF rfl (df c9) <| .exit rfl <| .keepL [] [] [] (by decide) (by decide) trivial trivial ?_
        exact hx1 _ h
def cost_Check.f (a0 : Int) (a1 : Int) (r : Int) : Prop :=
  ∃ t2_3 : Int, (cost_checks.f a0 [a1] t2_3) ∧ r = t2_3
theorem cost_Check.D {a0 a1 r} (h : cost_Check.f a0 a1 r) : D Tryz.prog X (.callH 104 [.val (.int .i64 a0), .val (.int .i64 a1)] [] (.val (.int .i64 r)) []) := by
  unfold cost_Check.f at h
  refine .enter 9 0 fn104 rfl rfl rfl <| .seq <| .reg0 rfl (.op 0 rfl (asV rfl) <| .nil0) <| .seq ?_
  obtain ⟨t2_3, g2_3, h⟩ := h
  refine .room 0 <| .reg0 rfl (.op 0 rfl (mvV rfl) <| .op 0 rfl (mvV rfl) <| .op 0 rfl (bldL (s := 1) (cs := [i6 a1]) un29 sz3 ze3 ⟨by decide, rfl, by decide⟩ rfl rfl rfl rfl) <| .callI rfl (callee_of rfl go107 rfl) (.lendC (args' := [i6 a0, .rows ([a1].map (cInt .i64))])  [0] false (.cons (.free rfl rfl) <| .cons (cFixO (l := [a1]) sl29 rfl rfl rfl rfl) <| .nil) (by decide) rfl rfl rfl rfl (cost_checks.D g2_3)) <| .op 0 rfl (asV rfl) <| .nil0) ?_
  replace h := h.symm
  subst h
  refine .kf [(4, i6 t2_3)] rfl rfl ?_
  exact .ret rfl
def bits_Full.f (a0 : Int) (r : Int × Int) : Prop :=
  if ((decide (a0 < 0)) || (decide (a0 > 64))) = true then (r = (0, 10)) else ((((0 : Int) ≤ (IntKind.u64.wrap (IntKind.i64.wrap (64 - a0))))) ∧ r = ((shrI .u64 18446744073709551615 (IntKind.u64.wrap (IntKind.i64.wrap (64 - a0)))), 0))
theorem bits_Full.D {a0 r} (h : bits_Full.f a0 r) : D Tryz.prog X (.callH 99 [.val (.int .i64 a0)] [] (.tuple [.val (.int .u64 r.1), .val (.int .i64 r.2)]) []) := by
  unfold bits_Full.f at h
  refine .enter 14 0 fn99 rfl rfl rfl <| .seq <| .reg0 rfl (.op 0 rfl (asV rfl) <| .op 0 rfl (asV rfl) <| .nil0) <| .seq <| .seq ?_
  refine .reg0 (e1 := listEnv [(0, i6 a0), (9, bo ((decide (a0 < 0)) || (decide (a0 > 64))))]) (H1 := []) rfl ?_ ?_
  · refine .m rfl <| .o (ltI rfl rfl) <| .m rfl <| ?_
    by_cases c1 : a0 < 0
    · exact (.n rfl (dt c1) <| .n rfl (dt c1) <| .o (pkTV rfl (dt c1) rfl) <| .nilL _ ⟨.free rfl rfl, cB rfl (mOrT (dt c1)), trivial⟩)
    · exact (.g rfl (df c1) (mvV rfl) <| .g rfl (df c1) (gtI rfl rfl) <| .o (pkFV rfl (df c1) rfl) <| .nilL _ ⟨.free rfl rfl, cB rfl (mOrF (df c1) rfl), trivial⟩)
  by_cases c2 : ((decide (a0 < 0)) || (decide (a0 > 64))) = true
  · rw [if_pos c2] at h
    refine .condT rfl c2 <| .seq <| .reg0 rfl (.op 0 rfl (asV rfl) <| .op 0 rfl (asV rfl) <| .nil0) ?_
    replace h := h.symm
    subst h
    refine .kf [(2, u6 0), (3, i6 10)] rfl rfl ?_
    exact .ret rfl
  · rw [if_neg c2] at h
    refine .condF rfl (nb c2) <| .skip <| .seq ?_
    obtain ⟨g4_3, h⟩ := h
    refine .reg0 rfl (.m rfl <| .o (subI rfl rfl) <| .o (convI un3 un151 rfl) <| .o (shr_ rfl rfl g4_3) <| .a rfl <| .a rfl <| .nil0) ?_
    replace h := h.symm
    subst h
    refine .kf [(2, u6 (shrI .u64 18446744073709551615 (IntKind.u64.wrap (IntKind.i64.wrap (64 - a0))))), (3, i6 0)] rfl rfl ?_
    exact .ret rfl
def slices_IndexFunc_uint64.b1 (a0 : List Int) (a1 : Int → Bool → Prop) : Int → Rnd Int Unit Int → Prop := fun x1 z1 => if x1 < (a0.length : Int) then (((InR x1 a0.length)) ∧ ∃ t15_5 : Bool, (a1 (rdl a0 x1) t15_5) ∧ if t15_5 = true then (z1 = .ret x1) else (z1 = .next (IntKind.i64.wrap (x1 + 1)))) else (z1 = .exit ())
def slices_IndexFunc_uint64.f (a0 : List Int) (a1 : Int → Bool → Prop) (r : Int) : Prop :=
  ∃ o1 : Fin Unit Int, Loop (slices_IndexFunc_uint64.b1 a0 a1) 0 o1 ∧ o1.on (fun _ => r = (-1)) (fun r_ => r = r_)
theorem slices_IndexFunc_uint64.D {a0 : List Int} {a1 : Int → Bool → Prop} {r : Int} {c1_ : FuncId} {k1_ : List PV} (hg1_ : isGo Tryz.prog c1_ = true) (hk1_ : PV.free deep (.clo c1_ k1_) = true) (hka1_ : k1_.all (PV.free deep) = true) (hq1_ : ∀ x0_ y_, a1 x0_ y_ → D Tryz.prog X (.callH c1_ ([.val (.int .u64 x0_)] ++ k1_) [] (.val (.bool y_)) [])) (h : slices_IndexFunc_uint64.f a0 a1 r) : D Tryz.prog X (.callH 139 [.rows (a0.map (cInt .u64)), .clo c1_ k1_] [] (.val (.int .i64 r)) []) := by
  unfold slices_IndexFunc_uint64.f at h
  refine .enter 19 0 fn139 rfl rfl rfl <| .seq <| .reg0 rfl (.op 0 rfl (asV rfl) <| .nil0) <| .seq <| .seq <| .reg0 rfl (.op 0 rfl (mvR rfl) <| .op 0 rfl (lnR (l := a0) sl33 rfl) <| .op 0 rfl (mvV rfl) <| .nil0) <| .block <| .keepL [] [(0, .rows (a0.map (cInt .u64))), (1, .clo c1_ k1_), (7, i6 (a0.length : Int)), (8, i6 0)] [] (by decide) (by decide) ⟨.free rfl rfl, .free rfl hk1_, .free rfl rfl, .free rfl rfl, trivial⟩ trivial ?_
  obtain ⟨o1, hL1, h⟩ := h
  refine .loopB (slices_IndexFunc_uint64.b1 a0 a1) (fun x1 => listEnv [(0, .rows (a0.map (cInt .u64))), (1, .clo c1_ k1_), (7, i6 (a0.length : Int)), (8, i6 x1)]) (fun x1 => []) (fun _ => listEnv []) (fun _ => []) hL1 (fun r_ => r = r_) ?_ ?_ ?_
  · rintro ⟨⟩ rfl
    try dsimp only [Fin.on] at h
    refine .seq <| .reg0 rfl (.op 0 rfl (asV rfl) <| .nil0) ?_
    replace h := h.symm
    subst h
    refine .kf [(4, i6 (-1))] rfl rfl ?_
    exact .ret rfl
  · rintro r_ rfl
    exact h
  · rintro x1 z1 h hn1 hx1 hr1
    dsimp only [slices_IndexFunc_uint64.b1] at h
    refine .seq <| .reg0 rfl (.op 0 rfl (ltI rfl rfl) <| .nil0) <| .seq ?_
    by_cases c5 : x1 < (a0.length : Int)
    · rw [if_pos c5] at h
      refine .condT rfl (dt c5) <| .skip <| .seq <| .block <| .seq <| .reg0 rfl (.op 0 rfl (mvV rfl) <| .op 0 rfl (asV rfl) <| .nil0) <| .seq ?_
      obtain ⟨g15_3, h⟩ := h
      obtain ⟨t15_5, g15_5, h⟩ := h
      refine .reg0 rfl (.o (mvF rfl) <| .o (mvR rfl) <| .m rfl <| .o (ixR (l := a0) (lit := (cInt .u64)) sl33 rfl rfl (fun _ => rfl) g15_3.1 g15_3.2) <| .o (ldC rfl sz32 ag32 rfl) <| .callI rfl (callee_of rfl hg1_ rfl) (.pure (allCons rfl hka1_) rfl (hq1_ _ _ g15_5)) <| .nil0) ?_
      by_cases c6 : t15_5 = true
      · rw [if_pos c6] at h
        refine .condT rfl c6 <| .seq <| .reg0 rfl (.op 0 rfl (mvV rfl) <| .op 0 rfl (asV rfl) <| .nil0) ?_
        have q3 := hr1 _ h
        replace q3 := q3.symm
        subst q3
        refine .kf [(4, i6 x1)] rfl rfl ?_
        exact .ret rfl
      · rw [if_neg c6] at h
        refine .condF rfl (nb c6) <| .skip <| .inBlock <| .reg0 rfl (.op 0 rfl (addI rfl rfl) <| .op 0 rfl (mvV rfl) <| .nil0) <| .k [(0, .rows (a0.map (cInt .u64))), (1, .clo c1_ k1_), (7, i6 (a0.length : Int)), (8, i6 (IntKind.i64.wrap (x1 + 1)))] ⟨.free rfl rfl, .free rfl hk1_, .free rfl rfl, .free rfl rfl, trivial⟩ ?_
        exact hn1 _ h
    · rw [if_neg c5] at h
      refine .condF rfl (df c5) <| .exit rfl <| .keepL [] [] [] (by decide) (by decide) trivial trivial ?_
      exact hx1 _ h
def slices_ContainsFunc_uint64.f (a0 : List Int) (a1 : Int → Bool → Prop) (r : Bool) : Prop :=
  ∃ t2_2 : Int, (slices_IndexFunc_uint64.f a0 a1 t2_2) ∧ r = (decide (t2_2 ≥ 0))
theorem slices_ContainsFunc_uint64.D {a0 : List Int} {a1 : Int → Bool → Prop} {r : Bool} {c1_ : FuncId} {k1_ : List PV} (hg1_ : isGo Tryz.prog c1_ = true) (hk1_ : PV.free deep (.clo c1_ k1_) = true) (hka1_ : k1_.all (PV.free deep) = true) (hq1_ : ∀ x0_ y_, a1 x0_ y_ → D Tryz.prog X (.callH c1_ ([.val (.int .u64 x0_)] ++ k1_) [] (.val (.bool y_)) [])) (h : slices_ContainsFunc_uint64.f a0 a1 r) : D Tryz.prog X (.callH 128 [.rows (a0.map (cInt .u64)), .clo c1_ k1_] [] (.val (.bool r)) []) := by
  unfold slices_ContainsFunc_uint64.f at h
  refine .enter 9 0 fn128 rfl rfl rfl <| .seq <| .reg0 rfl (.op 0 rfl (asV rfl) <| .nil0) <| .seq ?_
  obtain ⟨t2_2, g2_2, h⟩ := h
  refine .reg0 rfl (.o (mvR rfl) <| .o (mvF rfl) <| .callI rfl (callee_of rfl go139 rfl) (.pure (allCons rfl (allCons hk1_ rfl)) rfl (slices_IndexFunc_uint64.D hg1_ hk1_ hka1_ hq1_ g2_2)) <| .o (geI rfl rfl) <| .a rfl <| .nil0) ?_
  replace h := h.symm
  subst h
  refine .kf [(4, bo (decide (t2_2 ≥ 0)))] rfl rfl ?_
  exact .ret rfl
def facts_shaped_1.f (a0 : Int) (f0 : Int) (r : Bool) : Prop :=
  r = ((bitOp .andNot .u64 a0 f0) != 0)
theorem facts_shaped_1.D {a0 f0 r} (h : facts_shaped_1.f a0 f0 r) : D Tryz.prog X (.callH 129 [.val (.int .u64 a0), .cptr ((cInt .u64) f0) 0] [] (.val (.bool r)) []) := by
  unfold facts_shaped_1.f at h
  refine .enter 8 0 fn129 rfl rfl rfl <| .seq <| .reg0 rfl (.op 0 rfl (asV rfl) <| .nil0) <| .seq <| .reg0 rfl (.op 0 rfl (mvV rfl) <| .op 0 rfl (ldC rfl sz32 ag32 rfl) <| .op 0 rfl (andNotI rfl rfl) <| .op 0 rfl (neI rfl rfl) <| .op 0 rfl (asV rfl) <| .nil0) ?_
  replace h := h.symm
  subst h
  refine .kf [(3, bo ((bitOp .andNot .u64 a0 f0) != 0))] rfl rfl ?_
  exact .ret rfl
def facts_shaped.f (a0 : Int) (a1 : TFacts) (r : Int) : Prop :=
  ∃ t2_1 : Int × Int, (bits_Full.f a0 t2_1) ∧ if t2_1.2 = 0 then (∃ t4_16 : Bool, (((a1.Rows.length : Int) = a0) → ((bitOp .andNot .u64 a1.Gen t2_1.1) = 0) → slices_ContainsFunc_uint64.f a1.Rows (fun x0_ y_ => facts_shaped_1.f x0_ t2_1.1 y_) t4_16) ∧ if ((!((a1.Rows.length : Int) == a0)) || ((!((bitOp .andNot .u64 a1.Gen t2_1.1) == 0)) || t4_16)) = true then (r = 30) else (r = 0)) else (r = 31)
theorem facts_shaped.D {a0 a1 r} (h : facts_shaped.f a0 a1 r) : D Tryz.prog X (.callH 119 [.val (.int .i64 a0), .agg (TFacts.lit a1)] [] (.val (.int .i64 r)) []) := by
  unfold facts_shaped.f at h
  refine .enter 32 0 fn119 rfl rfl rfl <| .seq <| .room 0 <| .reg0 rfl (.op 0 rfl (bxP (s := 2) (cs := (TFacts.lit a1)) rfl ⟨rfl, by decide, rfl⟩ rfl) <| .op 0 rfl (asV rfl) <| .nil0) <| .seq ?_
  obtain ⟨t2_1, g2_1, h⟩ := h
  refine .room 0 <| .reg0 rfl (.op 0 rfl (mvV rfl) <| .callI rfl (callee_of rfl go99 rfl) (.pure rfl rfl (bits_Full.D g2_1)) <| .op 0 rfl (mvT rfl) <| .op 0 rfl (exT rfl rfl) <| .op 0 rfl (exT rfl rfl) <| .op 1 rfl (alP (s := 1) ze32 ⟨rfl, by decide, rfl⟩ rfl) <| .op 0 rfl (stB (cs0 := [u6 0]) (cs := [u6 t2_1.1]) (cs1 := [u6 t2_1.1]) rfl rfl sz32 rfl ⟨Nat.le_of_ble_eq_true rfl, rfl⟩ rfl) <| .op 0 rfl (asV rfl) <| .nil0) ?_
  refine .seq <| .seq <| .reg0 rfl (.op 0 rfl (mvV rfl) <| .op 0 rfl (neI rfl rfl) <| .nil0) ?_
  by_cases c1 : t2_1.2 = 0
  · rw [if_pos c1] at h
    refine .condF rfl (nf c1) <| .skip <| .seq <| .seq ?_
    obtain ⟨t4_16, g4_16, h⟩ := h
    refine .reg0 (e1 := listEnv [(31, bo ((!((a1.Rows.length : Int) == a0)) || ((!((bitOp .andNot .u64 a1.Gen t2_1.1) == 0)) || t4_16)))]) (H1 := [⟨2, [(TFacts.lit a1)], 0, none⟩, ⟨1, [[u6 t2_1.1]], 0, none⟩]) rfl ?_ ?_
    · refine .o (faP fa35_1 rfl) <| .o (ldP rfl sz33 ag33 rfl) <| .o (lnR (l := a1.Rows) sl33 rfl) <| .m rfl <| .o (neI rfl rfl) <| .m rfl <| ?_
      by_cases c2 : (a1.Rows.length : Int) = a0
      · refine .g rfl (nf c2) (faP fa35_0 rfl) <| .g rfl (nf c2) (ldP rfl sz32 ag32 rfl) <| .g rfl (nf c2) (ldP rfl sz32 ag32 rfl) <| .g rfl (nf c2) (andNotI rfl rfl) <| .g rfl (nf c2) (neI rfl rfl) <| .o (pkFV rfl (nf c2) rfl) <| .m rfl <| ?_
        by_cases c3 : (bitOp .andNot .u64 a1.Gen t2_1.1) = 0
        · exact (.g rfl (nf c3) (faP fa35_1 rfl) <| .g rfl (nf c3) (ldP rfl sz33 ag33 rfl) <| .g rfl (nf c3) (mkF rfl) <| .callI (gT rfl rfl rfl (nf c3)) (callee_of rfl go128 rfl) (.lendC (args' := [.rows (a1.Rows.map (cInt .u64)), .clo 129 [.cptr [u6 t2_1.1] 0]])  [1] false (.cons (.free rfl rfl) <| .cons (cClo (.cons (cFixP rfl rfl (.cons (.free rfl rfl) <| .nil)) <| .nil)) <| .nil) (by decide) rfl rfl rfl rfl (slices_ContainsFunc_uint64.D (k1_ := [.cptr [u6 t2_1.1] 0]) go129 rfl rfl (fun x0_ y_ h_ => facts_shaped_1.D h_) (g4_16 c2 c3))) <| .o (pkFV rfl (nf c3) rfl) <| .nilL _ ⟨cB rfl (mOrF (bnotF (bt c2)) (mOrF (bnotF (bt c3)) rfl)), trivial⟩)
        · exact (.n rfl (nt c3) <| .n rfl (nt c3) <| .n rfl (nt c3) <| .n rfl (nt c3) <| .o (pkTV rfl (nt c3) rfl) <| .nilL _ ⟨cB rfl (mOrF (bnotF (bt c2)) (mOrT (bnotT (bn c3)))), trivial⟩)
      · exact (.n rfl (nt c2) <| .n rfl (nt c2) <| .n rfl (nt c2) <| .n rfl (nt c2) <| .n rfl (nt c2) <| .o (pkTV rfl (nt c2) rfl) <| .m rfl <| .n rfl rfl <| .n rfl rfl <| .n rfl rfl <| .n rfl rfl <| .o (pkTV rfl rfl rfl) <| .nilL _ ⟨cB rfl (mOrT (bnotT (bn c2))), trivial⟩)
    by_cases c4 : ((!((a1.Rows.length : Int) == a0)) || ((!((bitOp .andNot .u64 a1.Gen t2_1.1) == 0)) || t4_16)) = true
    · rw [if_pos c4] at h
      refine .condT rfl c4 <| .seq <| .reg0 rfl (.op 0 rfl (asV rfl) <| .nil0) ?_
      replace h := h.symm
      subst h
      refine .kf [(4, i6 30)] rfl rfl ?_
      exact .ret rfl
    · rw [if_neg c4] at h
      refine .condF rfl (nb c4) <| .skip <| .seq <| .reg0 rfl (.op 0 rfl (asV rfl) <| .nil0) ?_
      replace h := h.symm
      subst h
      refine .kf [(4, i6 0)] rfl rfl ?_
      exact .ret rfl
  · rw [if_neg c1] at h
    refine .condT rfl (nt c1) <| .seq <| .reg0 rfl (.op 0 rfl (asV rfl) <| .nil0) ?_
    replace h := h.symm
    subst h
    refine .kf [(4, i6 31)] rfl rfl ?_
    exact .ret rfl
def facts_canon.b1 (a0 : TFacts) : ((List Int) × Int) → Rnd (((List Int) × Int)) ((List Int)) TFacts → Prop := fun (x1, x2) z1 => if x2 < (a0.Rows.length : Int) then (((InR x2 a0.Rows.length)) ∧ ((InR x2 x1.length)) ∧ z1 = .next ((setl x1 x2 (bitOp .andNot .u64 (rdl a0.Rows x2) a0.Gen)), (IntKind.i64.wrap (x2 + 1)))) else (z1 = .exit x1)
def facts_canon.f (a0 : TFacts) (r : TFacts) : Prop :=
  (((0 : Int) ≤ (a0.Rows.length : Int) ∧ Fits (a0.Rows.length : Int) 8)) ∧ ∃ o1 : Fin ((List Int)) TFacts, Loop (facts_canon.b1 a0) ((List.replicate (Int.toNat (a0.Rows.length : Int)) (0 : Int)), 0) o1 ∧ o1.on (fun x3 => r = (TFacts.mk a0.Gen x3)) (fun r_ => r = r_)
theorem facts_canon.D {a0 r} (h : facts_canon.f a0 r) : D Tryz.prog X (.callH 110 [.agg (TFacts.lit a0)] [] (.agg (TFacts.lit r)) []) := by
  unfold facts_canon.f at h
  refine .enter 31 0 fn110 rfl rfl rfl <| .seq <| .room 0 <| .room 0 <| .reg0 rfl (.op 0 rfl (bxP (s := 2) (cs := (TFacts.lit a0)) rfl ⟨rfl, by decide, rfl⟩ rfl) <| .op 1 rfl (alP (s := 2) ze35 ⟨rfl, by decide, rfl⟩ rfl) <| .nil0) <| .seq ?_
  obtain ⟨g2_5, h⟩ := h
  refine .room 0 <| .room 0 ?_
  refine .reg1 (e1 := listEnv [(1, .ptr 0 1 2 0 0), (2, .ptr 1 1 2 0 0), (3, .ptr 3 1 2 0 0)]) (H1 := [⟨2, [(TFacts.lit a0)], 0, none⟩, ⟨2, [[u6 0, nul]], 0, none⟩, ⟨1, (List.replicate (Int.toNat (a0.Rows.length : Int)) (0 : Int)).map (cInt .u64), 0, none⟩, ⟨2, [[u6 a0.Gen, .own 2 ((List.replicate (Int.toNat (a0.Rows.length : Int)) (0 : Int)).length)]], 0, none⟩]) rfl ?_ ?_
  · exact .drawM [(7, 3, .ptr 3 1 2 0 0), (6, 12, .agg [u6 a0.Gen, .own 2 ((List.replicate (Int.toNat (a0.Rows.length : Int)) (0 : Int)).length)]), (5, 11, .own 2 ((List.replicate (Int.toNat (a0.Rows.length : Int)) (0 : Int)).length)), (4, 10, i6 (a0.Rows.length : Int)), (3, 9, .rows (a0.Rows.map (cInt .u64))), (2, 8, .ptr 0 1 2 0 1), (1, 7, u6 a0.Gen), (0, 6, .ptr 0 1 2 0 0)] [(8, 3, ⟨2, [[u6 a0.Gen, .own 2 ((List.replicate (Int.toNat (a0.Rows.length : Int)) (0 : Int)).length)]], 0, none⟩), (7, 3, ⟨2, [[u6 0, nul]], 0, none⟩), (5, 2, ⟨1, (List.replicate (Int.toNat (a0.Rows.length : Int)) (0 : Int)).map (cInt .u64), 0, none⟩)] [[], [0], [], [2], [3, 2], [4, 3, 2], [1, 0, 5, 4, 3, 2], [], [7, 6, 1, 0, 5, 4, 3, 2]] (by rfl) (by rfl) (by rfl) (by exact ⟨oP (fun _ => faP fa35_0 rfl) rfl, oP (fun _ => ldP rfl sz32 ag32 rfl) rfl, oP (fun _ => faP fa35_1 rfl) rfl, oP (fun _ => ldP rfl sz33 ag33 rfl) rfl, oP (fun _ => lnR (l := a0.Rows) sl33 rfl) rfl, oW 2 (fun _ => mkS (z0 := (0 : Int)) sl33 un33 ze32 rfl rfl g2_5.1 g2_5.2 rfl) rfl fun _ => rfl, oP (fun _ => bldS (cs := [u6 a0.Gen, .own 2 ((List.replicate (Int.toNat (a0.Rows.length : Int)) (0 : Int)).length)]) ze35 pl35 rfl rfl) rfl, oW 3 (fun _ => alP (s := 2) ze35 ⟨rfl, by decide, rfl⟩ rfl) rfl fun _ => rfl, fun S hS hD hn => .one0 0 rfl rfl (stB (cs0 := [u6 0, nul]) (cs := [u6 a0.Gen, .own 2 ((List.replicate (Int.toNat (a0.Rows.length : Int)) (0 : Int)).length)]) (cs1 := [u6 a0.Gen, .own 2 ((List.replicate (Int.toNat (a0.Rows.length : Int)) (0 : Int)).length)]) rfl rfl sz35 rfl ⟨Nat.le_of_ble_eq_true rfl, rfl⟩ rfl) (drawE_other _ _ _ _ rfl) rfl, trivial⟩) _ (by exact ⟨.ptr rfl, .ptr rfl, .ptr rfl, trivial⟩) (by rfl)
  refine .seq <| .seq <| .reg0 rfl (.op 0 rfl (faP fa35_1 rfl) <| .op 0 rfl (ldP rfl sz33 ag33 rfl) <| .op 0 rfl (lnR (l := a0.Rows) sl33 rfl) <| .op 0 rfl (mvV rfl) <| .nil0) <| .block <| .keepL [0, 1, 3, 2] [(1, .ptr 0 1 2 0 0), (2, .ptr 1 1 2 0 0), (3, .ptr 2 1 2 0 0), (14, .rows (a0.Rows.map (cInt .u64))), (15, i6 (a0.Rows.length : Int)), (16, i6 0)] [⟨2, [(TFacts.lit a0)], 0, none⟩, ⟨2, [[u6 0, nul]], 0, none⟩, ⟨2, [[u6 a0.Gen, .own 3 ((List.replicate (Int.toNat (a0.Rows.length : Int)) (0 : Int)).length)]], 0, none⟩, ⟨1, (List.replicate (Int.toNat (a0.Rows.length : Int)) (0 : Int)).map (cInt .u64), 0, none⟩] (by decide) (by decide) ⟨.ptr rfl, .ptr rfl, .ptr rfl, .free rfl rfl, .free rfl rfl, .free rfl rfl, trivial⟩ ⟨⟨_, rfl, bcBox (all2_free rfl)⟩, ⟨_, rfl, bcBox (all2_free rfl)⟩, ⟨_, rfl, bcBox (.cons (.free rfl rfl) <| .cons (.own rfl) <| .nil)⟩, ⟨_, rfl, bcRow (l := (List.replicate (Int.toNat (a0.Rows.length : Int)) (0 : Int))) sl33 (Nat.le_refl _) rfl⟩, trivial⟩ ?_
  obtain ⟨o1, hL1, h⟩ := h
  refine .loopB (facts_canon.b1 a0) (fun (x1, x2) => listEnv [(1, .ptr 0 1 2 0 0), (2, .ptr 1 1 2 0 0), (3, .ptr 2 1 2 0 0), (14, .rows (a0.Rows.map (cInt .u64))), (15, i6 (a0.Rows.length : Int)), (16, i6 x2)]) (fun (x1, x2) => [⟨2, [(TFacts.lit a0)], 0, none⟩, ⟨2, [[u6 0, nul]], 0, none⟩, ⟨2, [[u6 a0.Gen, .own 3 x1.length]], 0, none⟩, ⟨1, x1.map (cInt .u64), 0, none⟩]) (fun x3 => listEnv [(2, .ptr 0 1 2 0 0), (3, .ptr 1 1 2 0 0)]) (fun x3 => [⟨2, [[u6 0, nul]], 0, none⟩, ⟨2, [[u6 a0.Gen, .own 2 x3.length]], 0, none⟩, ⟨1, x3.map (cInt .u64), 0, none⟩]) hL1 (fun r_ => r = r_) ?_ ?_ ?_
  · rintro x3 rfl
    try dsimp only [Fin.on] at h
    refine .seq <| .reg0 rfl (.op 0 rfl (ldG rfl sz35 ag35 rfl) <| .op 0 rfl (stB (cs0 := [u6 0, nul]) (cs := [u6 a0.Gen, .own 2 x3.length]) (cs1 := [u6 a0.Gen, .own 2 x3.length]) rfl rfl sz35 rfl ⟨Nat.le_of_ble_eq_true rfl, rfl⟩ rfl) <| .nil0) ?_
    replace h := h.symm
    subst h
    refine .k [(2, .cptr [u6 a0.Gen, .rows (x3.map (cInt .u64))] 0)] ⟨cFixP rfl rfl (.cons (.free rfl rfl) <| .cons (cFixO (l := x3) sl33 rfl rfl rfl rfl) <| .nil), trivial⟩ ?_
    exact .ret rfl
  · rintro r_ rfl
    exact h
  · rintro ⟨x1, x2⟩ z1 h hn1 hx1 hr1
    dsimp only [facts_canon.b1] at h
    refine .seq <| .reg0 rfl (.op 0 rfl (ltI rfl rfl) <| .nil0) <| .seq ?_
    by_cases c3 : x2 < (a0.Rows.length : Int)
    · rw [if_pos c3] at h
      refine .condT rfl (dt c3) <| .skip <| .seq <| .block <| .seq ?_
      obtain ⟨g13_1, h⟩ := h
      refine .reg0 rfl (.m rfl <| .o (ixR (l := a0.Rows) (lit := (cInt .u64)) sl33 rfl rfl (fun _ => rfl) g13_1.1 g13_1.2) <| .o (ldC rfl sz32 ag32 rfl) <| .a rfl <| .a rfl <| .nil0) ?_
      obtain ⟨g14_7, h⟩ := h
      refine .reg0 rfl (.o (faP fa35_1 rfl) <| .o (ldP rfl sz33 ag33 rfl) <| .m rfl <| .m rfl <| .o (faP fa35_0 rfl) <| .o (ldP rfl sz32 ag32 rfl) <| .o (andNotI rfl rfl) <| .o (ixO (l := x1) sl33 rfl rfl rfl rfl g14_7.1 g14_7.2) <| .o (stO (l := x1) (j := x2) (cs := [u6 (bitOp .andNot .u64 (rdl a0.Rows x2) a0.Gen)]) (bitOp .andNot .u64 (rdl a0.Rows x2) a0.Gen) sl33 rfl rfl sz32 rfl rfl g14_7.1 g14_7.2 (Nat.zero_le _) ⟨Nat.le_of_ble_eq_true rfl, rfl⟩ rfl) <| .nil0) ?_
      refine .inBlock <| .reg0 rfl (.op 0 rfl (addI rfl rfl) <| .op 0 rfl (mvV rfl) <| .nil0) <| .keepL [0, 1, 2, 3] [(1, .ptr 0 1 2 0 0), (2, .ptr 1 1 2 0 0), (3, .ptr 2 1 2 0 0), (14, .rows (a0.Rows.map (cInt .u64))), (15, i6 (a0.Rows.length : Int)), (16, i6 (IntKind.i64.wrap (x2 + 1)))] [⟨2, [(TFacts.lit a0)], 0, none⟩, ⟨2, [[u6 0, nul]], 0, none⟩, ⟨2, [[u6 a0.Gen, .own 3 ((setl x1 x2 (bitOp .andNot .u64 (rdl a0.Rows x2) a0.Gen)).length)]], 0, none⟩, ⟨1, (setl x1 x2 (bitOp .andNot .u64 (rdl a0.Rows x2) a0.Gen)).map (cInt .u64), 0, none⟩] (by decide) (by decide) ⟨.ptr rfl, .ptr rfl, .ptr rfl, .free rfl rfl, .free rfl rfl, .free rfl rfl, trivial⟩ ⟨⟨_, rfl, bcBox (all2_free rfl)⟩, ⟨_, rfl, bcBox (all2_free rfl)⟩, ⟨_, rfl, bcBox (.cons (.free rfl rfl) <| .cons (cOwnE rfl (by simp only [setl, List.length_set])) <| .nil)⟩, ⟨_, rfl, bcRow (l := (setl x1 x2 (bitOp .andNot .u64 (rdl a0.Rows x2) a0.Gen))) sl33 (Nat.le_refl _) rfl⟩, trivial⟩ ?_
      exact hn1 _ h
    · rw [if_neg c3] at h
      refine .condF rfl (df c3) <| .exit rfl <| .keepL [1, 2, 3] [(2, .ptr 0 1 2 0 0), (3, .ptr 1 1 2 0 0)] [⟨2, [[u6 0, nul]], 0, none⟩, ⟨2, [[u6 a0.Gen, .own 2 x1.length]], 0, none⟩, ⟨1, x1.map (cInt .u64), 0, none⟩] (by decide) (by decide) ⟨.ptr rfl, .ptr rfl, trivial⟩ ⟨⟨_, rfl, bcBox (all2_free rfl)⟩, ⟨_, rfl, bcBox (.cons (.free rfl rfl) <| .cons (.own rfl) <| .nil)⟩, ⟨_, rfl, bcRow (l := x1) sl33 (Nat.le_refl _) rfl⟩, trivial⟩ ?_
      exact hx1 _ h
def slices_Equal_uint64.b1 (a0 : List Int) (a1 : List Int) : Int → Rnd Int Unit Bool → Prop := fun x1 z1 => if x1 < (a0.length : Int) then (((InR x1 a0.length)) ∧ ((InR x1 a1.length)) ∧ if (rdl a0 x1) = (rdl a1 x1) then (z1 = .next (IntKind.i64.wrap (x1 + 1))) else (z1 = .ret false)) else (z1 = .exit ())
def slices_Equal_uint64.f (a0 : List Int) (a1 : List Int) (r : Bool) : Prop :=
  if (a0.length : Int) = (a1.length : Int) then (∃ o1 : Fin Unit Bool, Loop (slices_Equal_uint64.b1 a0 a1) 0 o1 ∧ o1.on (fun _ => r = true) (fun r_ => r = r_)) else (r = false)
theorem slices_Equal_uint64.D {a0 a1 r} (h : slices_Equal_uint64.f a0 a1 r) : D Tryz.prog X (.callH 130 [.rows (a0.map (cInt .u64)), .rows (a1.map (cInt .u64))] [] (.val (.bool r)) []) := by
  unfold slices_Equal_uint64.f at h
  refine .enter 26 0 fn130 rfl rfl rfl <| .seq <| .reg0 rfl (.op 0 rfl (asV rfl) <| .nil0) <| .seq <| .seq <| .reg0 rfl (.op 0 rfl (mvR rfl) <| .op 0 rfl (lnR (l := a0) sl33 rfl) <| .op 0 rfl (mvR rfl) <| .op 0 rfl (lnR (l := a1) sl33 rfl) <| .op 0 rfl (neI rfl rfl) <| .nil0) ?_
  by_cases c1 : (a0.length : Int) = (a1.length : Int)
  · rw [if_pos c1] at h
    refine .condF rfl (nf c1) <| .skip <| .seq <| .seq <| .reg0 rfl (.op 0 rfl (mvR rfl) <| .op 0 rfl (lnR (l := a0) sl33 rfl) <| .op 0 rfl (mvV rfl) <| .nil0) <| .block <| .keepL [] [(0, .rows (a0.map (cInt .u64))), (1, .rows (a1.map (cInt .u64))), (12, i6 (a0.length : Int)), (13, i6 0)] [] (by decide) (by decide) ⟨.free rfl rfl, .free rfl rfl, .free rfl rfl, .free rfl rfl, trivial⟩ trivial ?_
    obtain ⟨o1, hL1, h⟩ := h
    refine .loopB (slices_Equal_uint64.b1 a0 a1) (fun x1 => listEnv [(0, .rows (a0.map (cInt .u64))), (1, .rows (a1.map (cInt .u64))), (12, i6 (a0.length : Int)), (13, i6 x1)]) (fun x1 => []) (fun _ => listEnv []) (fun _ => []) hL1 (fun r_ => r = r_) ?_ ?_ ?_
    · rintro ⟨⟩ rfl
      try dsimp only [Fin.on] at h
      refine .seq <| .reg0 rfl (.op 0 rfl (asV rfl) <| .nil0) ?_
      replace h := h.symm
      subst h
      refine .kf [(4, bo true)] rfl rfl ?_
      exact .ret rfl
    · rintro r_ rfl
      exact h
    · rintro x1 z1 h hn1 hx1 hr1
      dsimp only [slices_Equal_uint64.b1] at h
      refine .seq <| .reg0 rfl (.op 0 rfl (ltI rfl rfl) <| .nil0) <| .seq ?_
      by_cases c6 : x1 < (a0.length : Int)
      · rw [if_pos c6] at h
        refine .condT rfl (dt c6) <| .skip <| .seq <| .block <| .seq <| .reg0 rfl (.op 0 rfl (mvV rfl) <| .op 0 rfl (asV rfl) <| .nil0) <| .seq ?_
        obtain ⟨g16_2, h⟩ := h
        obtain ⟨g16_6, h⟩ := h
        refine .reg1 (e1 := listEnv [(0, .rows (a0.map (cInt .u64))), (1, .rows (a1.map (cInt .u64))), (12, i6 (a0.length : Int)), (13, i6 x1), (24, bo ((rdl a0 x1) != (rdl a1 x1)))]) (H1 := []) rfl ?_ ?_
        · exact .drawM [(8, 24, bo ((rdl a0 x1) != (rdl a1 x1))), (7, 23, u6 (rdl a1 x1)), (6, 22, .cptr ((cInt .u64) (rdl a1 x1)) 0), (5, 21, i6 x1), (4, 20, .rows (a1.map (cInt .u64))), (3, 19, u6 (rdl a0 x1)), (2, 18, .cptr ((cInt .u64) (rdl a0 x1)) 0), (1, 17, i6 x1), (0, 16, .rows (a0.map (cInt .u64)))] [] [[], [], [0, 1], [2, 0, 1], [], [], [4, 5], [6, 4, 5], [3, 2, 0, 1, 7, 6, 4, 5]] (by rfl) (by rfl) (by rfl) (by exact ⟨oP (fun _ => mvR rfl) rfl, oP (fun _ => mvV rfl) rfl, oP (fun _ => ixR (l := a0) (lit := (cInt .u64)) sl33 rfl rfl (fun _ => rfl) g16_2.1 g16_2.2) rfl, oP (fun _ => ldC rfl sz32 ag32 rfl) rfl, oP (fun _ => mvR rfl) rfl, oP (fun _ => mvV rfl) rfl, oP (fun _ => ixR (l := a1) (lit := (cInt .u64)) sl33 rfl rfl (fun _ => rfl) g16_6.1 g16_6.2) rfl, oP (fun _ => ldC rfl sz32 ag32 rfl) rfl, oP (fun _ => neI rfl rfl) rfl, trivial⟩) _ (by exact ⟨.free rfl rfl, .free rfl rfl, .free rfl rfl, .free rfl rfl, .free rfl rfl, trivial⟩) (by rfl)
        by_cases c7 : (rdl a0 x1) = (rdl a1 x1)
        · rw [if_pos c7] at h
          refine .condF rfl (nf c7) <| .skip <| .inBlock <| .reg0 rfl (.op 0 rfl (addI rfl rfl) <| .op 0 rfl (mvV rfl) <| .nil0) <| .kf [(0, .rows (a0.map (cInt .u64))), (1, .rows (a1.map (cInt .u64))), (12, i6 (a0.length : Int)), (13, i6 (IntKind.i64.wrap (x1 + 1)))] rfl rfl ?_
          exact hn1 _ h
        · rw [if_neg c7] at h
          refine .condT rfl (nt c7) <| .seq <| .reg0 rfl (.op 0 rfl (asV rfl) <| .nil0) ?_
          have q3 := hr1 _ h
          replace q3 := q3.symm
          subst q3
          refine .kf [(4, bo false)] rfl rfl ?_
          exact .ret rfl
      · rw [if_neg c6] at h
        refine .condF rfl (df c6) <| .exit rfl <| .keepL [] [] [] (by decide) (by decide) trivial trivial ?_
        exact hx1 _ h
  · rw [if_neg c1] at h
    refine .condT rfl (nt c1) <| .seq <| .reg0 rfl (.op 0 rfl (asV rfl) <| .nil0) ?_
    replace h := h.symm
    subst h
    refine .kf [(4, bo false)] rfl rfl ?_
    exact .ret rfl
def facts_Same.f (a0 : TFacts) (a1 : TFacts) (r : Bool) : Prop :=
  ∃ t2_10 : Bool, ((a0.Gen = a1.Gen) → slices_Equal_uint64.f a0.Rows a1.Rows t2_10) ∧ r = ((a0.Gen == a1.Gen) && t2_10)
theorem facts_Same.D {a0 a1 r} (h : facts_Same.f a0 a1 r) : D Tryz.prog X (.callH 120 [.agg (TFacts.lit a0), .agg (TFacts.lit a1)] [] (.val (.bool r)) []) := by
  unfold facts_Same.f at h
  refine .enter 17 0 fn120 rfl rfl rfl <| .seq <| .room 0 <| .room 0 <| .reg0 rfl (.op 0 rfl (bxP (s := 2) (cs := (TFacts.lit a0)) rfl ⟨rfl, by decide, rfl⟩ rfl) <| .op 1 rfl (bxP (s := 2) (cs := (TFacts.lit a1)) rfl ⟨rfl, by decide, rfl⟩ rfl) <| .op 0 rfl (asV rfl) <| .nil0) <| .seq ?_
  obtain ⟨t2_10, g2_10, h⟩ := h
  refine .reg0 (e1 := listEnv [(4, bo ((a0.Gen == a1.Gen) && t2_10))]) (H1 := [⟨2, [(TFacts.lit a0)], 0, none⟩, ⟨2, [(TFacts.lit a1)], 0, none⟩]) rfl ?_ ?_
  · refine .o (faP fa35_0 rfl) <| .o (ldP rfl sz32 ag32 rfl) <| .o (faP fa35_0 rfl) <| .o (ldP rfl sz32 ag32 rfl) <| .o (eqI rfl rfl) <| .m rfl <| ?_
    by_cases c1 : a0.Gen = a1.Gen
    · exact (.g rfl (bt c1) (faP fa35_1 rfl) <| .g rfl (bt c1) (ldP rfl sz33 ag33 rfl) <| .g rfl (bt c1) (faP fa35_1 rfl) <| .g rfl (bt c1) (ldP rfl sz33 ag33 rfl) <| .callI (gT rfl rfl rfl (bt c1)) (callee_of rfl go130 rfl) (.pure rfl rfl (slices_Equal_uint64.D (g2_10 c1))) <| .o (pkTV rfl (bt c1) rfl) <| .a rfl <| .nilL _ ⟨cB rfl (mAndT (bt c1) rfl), trivial⟩)
    · exact (.n rfl (bn c1) <| .n rfl (bn c1) <| .n rfl (bn c1) <| .n rfl (bn c1) <| .n rfl (bn c1) <| .o (pkFV rfl (bn c1) rfl) <| .a rfl <| .nilL _ ⟨cB rfl (mAndF (bn c1)), trivial⟩)
  replace h := h.symm
  subst h
  refine .kf [(4, bo ((a0.Gen == a1.Gen) && t2_10))] rfl rfl ?_
  exact .ret rfl
def facts_Check.f (a0 : Int) (a1 : TFacts) (r : Int) : Prop :=
  ∃ t2_2 : Int, (facts_shaped.f a0 a1 t2_2) ∧ if t2_2 = 0 then (∃ t4_1 : TFacts, (facts_canon.f a1 t4_1) ∧ ∃ t4_3 : Bool, (facts_Same.f t4_1 a1 t4_3) ∧ if t4_3 = true then (r = 0) else (r = 30)) else (r = t2_2)
theorem facts_Check.D {a0 a1 r} (h : facts_Check.f a0 a1 r) : D Tryz.prog X (.callH 105 [.val (.int .i64 a0), .agg (TFacts.lit a1)] [] (.val (.int .i64 r)) []) := by
  unfold facts_Check.f at h
  refine .enter 17 0 fn105 rfl rfl rfl <| .seq <| .room 0 <| .reg0 rfl (.op 0 rfl (bxP (s := 2) (cs := (TFacts.lit a1)) rfl ⟨rfl, by decide, rfl⟩ rfl) <| .op 0 rfl (asV rfl) <| .nil0) <| .seq <| .seq ?_
  obtain ⟨t2_2, g2_2, h⟩ := h
  refine .reg0 rfl (.m rfl <| .o (ldG rfl sz35 ag35 rfl) <| .c rfl go119 rfl rfl rfl (facts_shaped.D g2_2) <| .a rfl <| .nil0) <| .seq <| .reg0 rfl (.op 0 rfl (mvV rfl) <| .op 0 rfl (neI rfl rfl) <| .nil0) ?_
  by_cases c1 : t2_2 = 0
  · rw [if_pos c1] at h
    refine .condF rfl (nf c1) <| .skip <| .seq <| .seq ?_
    obtain ⟨t4_1, g4_1, h⟩ := h
    obtain ⟨t4_3, g4_3, h⟩ := h
    refine .reg1 (e1 := listEnv [(16, bo (!t4_3))]) (H1 := [⟨2, [(TFacts.lit a1)], 0, none⟩]) rfl ?_ ?_
    · exact .drawM [(4, 16, bo (!t4_3)), (3, 15, bo t4_3), (2, 14, .agg (TFacts.lit a1)), (1, 13, .agg (TFacts.lit t4_1)), (0, 12, .agg (TFacts.lit a1))] [] [[], [0], [], [1, 0, 2], [3, 1, 0, 2]] (by rfl) (by rfl) (by rfl) (by exact ⟨oP (fun _ => ldG rfl sz35 ag35 rfl) rfl, fun S hS hD hn => .oneI hS hD hn rfl rfl (callee_of rfl go110 rfl) (.pure rfl rfl (facts_canon.D g4_1)) rfl rfl rfl, oP (fun _ => ldG rfl sz35 ag35 rfl) rfl, fun S hS hD hn => .oneI hS hD hn rfl rfl (callee_of rfl go120 rfl) (.pure rfl rfl (facts_Same.D g4_3)) rfl rfl rfl, oP (fun _ => notB rfl) rfl, trivial⟩) _ (by exact ⟨.free rfl rfl, trivial⟩) (by rfl)
    by_cases c2 : t4_3 = true
    · rw [if_pos c2] at h
      refine .condF rfl (bnotF c2) <| .skip <| .seq <| .reg0 rfl (.op 0 rfl (asV rfl) <| .nil0) ?_
      replace h := h.symm
      subst h
      refine .kf [(4, i6 0)] rfl rfl ?_
      exact .ret rfl
    · rw [if_neg c2] at h
      refine .condT rfl (bnotT (nb c2)) <| .seq <| .reg0 rfl (.op 0 rfl (asV rfl) <| .nil0) ?_
      replace h := h.symm
      subst h
      refine .kf [(4, i6 30)] rfl rfl ?_
      exact .ret rfl
  · rw [if_neg c1] at h
    refine .condT rfl (nt c1) <| .seq <| .reg0 rfl (.op 0 rfl (mvV rfl) <| .op 0 rfl (asV rfl) <| .nil0) ?_
    replace h := h.symm
    subst h
    refine .kf [(4, i6 t2_2)] rfl rfl ?_
    exact .ret rfl
def cells_dims.f (a0 : Int) (r : Int) : Prop :=
  if ((decide (a0 < 0)) || (decide (a0 > 64))) = true then (r = 41) else (r = 0)
theorem cells_dims.D {a0 r} (h : cells_dims.f a0 r) : D Tryz.prog X (.callH 100 [.val (.int .i64 a0)] [] (.val (.int .i64 r)) []) := by
  unfold cells_dims.f at h
  refine .enter 9 0 fn100 rfl rfl rfl <| .seq <| .reg0 rfl (.op 0 rfl (asV rfl) <| .nil0) <| .seq <| .seq ?_
  refine .reg0 (e1 := listEnv [(8, bo ((decide (a0 < 0)) || (decide (a0 > 64))))]) (H1 := []) rfl ?_ ?_
  · refine .m rfl <| .o (ltI rfl rfl) <| .m rfl <| ?_
    by_cases c1 : a0 < 0
    · exact (.n rfl (dt c1) <| .n rfl (dt c1) <| .o (pkTV rfl (dt c1) rfl) <| .nilL _ ⟨cB rfl (mOrT (dt c1)), trivial⟩)
    · exact (.g rfl (df c1) (mvV rfl) <| .g rfl (df c1) (gtI rfl rfl) <| .o (pkFV rfl (df c1) rfl) <| .nilL _ ⟨cB rfl (mOrF (df c1) rfl), trivial⟩)
  by_cases c2 : ((decide (a0 < 0)) || (decide (a0 > 64))) = true
  · rw [if_pos c2] at h
    refine .condT rfl c2 <| .seq <| .reg0 rfl (.op 0 rfl (asV rfl) <| .nil0) ?_
    replace h := h.symm
    subst h
    refine .kf [(2, i6 41)] rfl rfl ?_
    exact .ret rfl
  · rw [if_neg c2] at h
    refine .condF rfl (nb c2) <| .skip <| .seq <| .reg0 rfl (.op 0 rfl (asV rfl) <| .nil0) ?_
    replace h := h.symm
    subst h
    refine .kf [(2, i6 0)] rfl rfl ?_
    exact .ret rfl
def cells_mask.f (a0 : Int) (r : Int) : Prop :=
  if a0 ≥ 64 then (r = 18446744073709551615) else ((((0 : Int) ≤ a0)) ∧ r = (IntKind.u64.wrap ((shlI .u64 1 a0) - 1)))
theorem cells_mask.D {a0 r} (h : cells_mask.f a0 r) : D Tryz.prog X (.callH 131 [.val (.int .i64 a0)] [] (.val (.int .u64 r)) []) := by
  unfold cells_mask.f at h
  refine .enter 8 0 fn131 rfl rfl rfl <| .seq <| .reg0 rfl (.op 0 rfl (asV rfl) <| .nil0) <| .seq <| .seq <| .reg0 rfl (.op 0 rfl (mvV rfl) <| .op 0 rfl (geI rfl rfl) <| .nil0) ?_
  by_cases c1 : a0 ≥ 64
  · rw [if_pos c1] at h
    refine .condT rfl (dt c1) <| .seq <| .reg0 rfl (.op 0 rfl (asV rfl) <| .nil0) ?_
    replace h := h.symm
    subst h
    refine .kf [(2, u6 18446744073709551615)] rfl rfl ?_
    exact .ret rfl
  · rw [if_neg c1] at h
    refine .condF rfl (df c1) <| .skip <| .seq ?_
    obtain ⟨g4_1, h⟩ := h
    refine .reg0 rfl (.m rfl <| .o (shl_ rfl rfl g4_1) <| .o (subI rfl rfl) <| .a rfl <| .nil0) ?_
    replace h := h.symm
    subst h
    refine .kf [(2, u6 (IntKind.u64.wrap ((shlI .u64 1 a0) - 1)))] rfl rfl ?_
    exact .ret rfl
def cells_right.f (a0 : Int) (a1 : TCell) (r : Bool) : Prop :=
  ∃ t2_3 : Int, (cells_mask.f a0 t2_3) ∧ if (bitOp .andNot .u64 a1.From t2_3) = 0 then (if a1.Kind = 1 then (r = true) else (if a1.Kind = 0 then (r = (a1.K == 0)) else (if a1.Kind = 2 then (r = ((a1.From == 0) && ((a1.Kind == 2) && ((a1.K == 0) && true)))) else (r = false)))) else (r = false)
theorem cells_right.D {a0 a1 r} (h : cells_right.f a0 a1 r) : D Tryz.prog X (.callH 121 [.val (.int .i64 a0), .agg (TCell.lit a1)] [] (.val (.bool r)) []) := by
  unfold cells_right.f at h
  refine .enter 25 0 fn121 rfl rfl rfl <| .seq <| .room 0 <| .reg0 rfl (.op 0 rfl (bxP (s := 3) (cs := (TCell.lit a1)) rfl ⟨rfl, by decide, rfl⟩ rfl) <| .op 0 rfl (asV rfl) <| .nil0) <| .seq <| .seq ?_
  obtain ⟨t2_3, g2_3, h⟩ := h
  refine .reg1 (e1 := listEnv [(3, .ptr 0 1 3 0 0), (10, bo ((bitOp .andNot .u64 a1.From t2_3) != 0))]) (H1 := [⟨3, [(TCell.lit a1)], 0, none⟩]) rfl ?_ ?_
  · exact .drawM [(5, 10, bo ((bitOp .andNot .u64 a1.From t2_3) != 0)), (4, 9, u6 (bitOp .andNot .u64 a1.From t2_3)), (3, 8, u6 t2_3), (2, 7, i6 a0), (1, 6, u6 a1.From), (0, 5, .ptr 0 1 3 0 0)] [] [[], [0], [], [2], [1, 0, 3, 2], [4, 1, 0, 3, 2]] (by rfl) (by rfl) (by rfl) (by exact ⟨oP (fun _ => faP fa81_0 rfl) rfl, oP (fun _ => ldP rfl sz32 ag32 rfl) rfl, oP (fun _ => mvV rfl) rfl, fun S hS hD hn => .oneI hS hD hn rfl rfl (callee_of rfl go131 rfl) (.pure rfl rfl (cells_mask.D g2_3)) rfl rfl rfl, oP (fun _ => andNotI rfl rfl) rfl, oP (fun _ => neI rfl rfl) rfl, trivial⟩) _ (by exact ⟨.ptr rfl, .free rfl rfl, trivial⟩) (by rfl)
  by_cases c1 : (bitOp .andNot .u64 a1.From t2_3) = 0
  · rw [if_pos c1] at h
    refine .condF rfl (nf c1) <| .skip <| .seq <| .seq <| .reg0 rfl (.op 0 rfl (faP fa81_1 rfl) <| .op 0 rfl (ldP rfl sz79 ag79 rfl) <| .nil0) <| .block <| .seq <| .reg0 rfl (.op 0 rfl (eqI rfl rfl) <| .op 0 rfl (asV rfl) <| .nil0) ?_
    by_cases c2 : a1.Kind = 1
    · rw [if_pos c2] at h
      refine .condT rfl (bt c2) <| .seq <| .reg0 rfl (.op 0 rfl (asV rfl) <| .nil0) ?_
      replace h := h.symm
      subst h
      refine .kf [(4, bo true)] rfl rfl ?_
      exact .ret rfl
    · rw [if_neg c2] at h
      refine .condF rfl (bn c2) <| .seq <| .reg0 rfl (.op 0 rfl (eqI rfl rfl) <| .op 0 rfl (asV rfl) <| .nil0) ?_
      by_cases c3 : a1.Kind = 0
      · rw [if_pos c3] at h
        refine .condT rfl (bt c3) <| .seq <| .reg0 rfl (.op 0 rfl (faP fa81_2 rfl) <| .op 0 rfl (ldP rfl sz2 ag2 rfl) <| .op 0 rfl (eqI rfl rfl) <| .op 0 rfl (asV rfl) <| .nil0) ?_
        replace h := h.symm
        subst h
        refine .kf [(4, bo (a1.K == 0))] rfl rfl ?_
        exact .ret rfl
      · rw [if_neg c3] at h
        refine .condF rfl (bn c3) <| .seq <| .reg0 rfl (.op 0 rfl (eqI rfl rfl) <| .op 0 rfl (asV rfl) <| .nil0) ?_
        by_cases c4 : a1.Kind = 2
        · rw [if_pos c4] at h
          refine .condT rfl (bt c4) <| .seq <| .reg0 rfl (.op 0 rfl (ldG rfl sz81 ag81 rfl) <| .op 0 rfl (bldS (cs := [u6 0, i6 2, i6 0]) ze81 pl81 rfl rfl) <| .op 0 rfl (eqS (xs := [.int .u64 a1.From, .int .i64 a1.Kind, .int .i64 a1.K]) (ys := [.int .u64 0, .int .i64 2, .int .i64 0]) ek81 rfl rfl rfl rfl rfl) <| .op 0 rfl (asV rfl) <| .nil0) ?_
          replace h := h.symm
          subst h
          refine .kf [(4, bo ((a1.From == 0) && ((a1.Kind == 2) && ((a1.K == 0) && true))))] rfl rfl ?_
          exact .ret rfl
        · rw [if_neg c4] at h
          refine .condF rfl (bn c4) <| .skip <| .inBlock <| .seq <| .reg0 rfl (.op 0 rfl (asV rfl) <| .nil0) ?_
          replace h := h.symm
          subst h
          refine .kf [(4, bo false)] rfl rfl ?_
          exact .ret rfl
  · rw [if_neg c1] at h
    refine .condT rfl (nt c1) <| .seq <| .reg0 rfl (.op 0 rfl (asV rfl) <| .nil0) ?_
    replace h := h.symm
    subst h
    refine .kf [(4, bo false)] rfl rfl ?_
    exact .ret rfl
end Go.RM.Tryz
