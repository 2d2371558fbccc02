/- GC, for the statement FramesStates: what it needs, no more. -/
import Derived.Test.YtcogffeinodfaaaGreatDoorZFramesStatesGB
set_option linter.unusedVariables false
set_option maxRecDepth 8000
set_option maxHeartbeats 4000000
namespace Go.RM.Tryz
open Go.RM Go.Proofs
variable {X : FuncId → List PV → Heap → PV → Heap → Prop}
def l22_awake.f (r : Bool) : Prop := r = true
abbrev GC_c0 : List PV := [i6 0, i6 0, i6 0, i6 0, i6 0, i6 0, i6 0]
theorem l22_awake.D {r} (h : l22_awake.f r) : D Tryz.prog X (.callH 6 [] [] (.val (.bool r)) []) := by
  rw [show r = true from h]
  exact awake_true
def l22_small.f (a0 : TGraph) (a1 : TState) (r : Bool) : Prop :=
  r = ((decide ((a0.Of.length : Int) ≤ 200)) && ((decide ((a0.Steps.length : Int) ≤ 300)) && (decide ((a1.Stack.length : Int) ≤ 200))))
theorem l22_small.D {a0 a1 r} (h : l22_small.f a0 a1 r) : D Tryz.prog X (.callH 7 [.agg (TGraph.lit a0), .agg (TState.lit a1)] [] (.val (.bool r)) []) := by
  unfold l22_small.f at h
  refine .enter 21 0 fn7 rfl rfl rfl <| .seq <| .room 0 <| .room 0 <| .reg0 rfl (.op 0 rfl (bxP (s := 10) (cs := (TGraph.lit a0)) rfl ⟨rfl, by decide, rfl⟩ rfl) <| .op 1 rfl (bxP (s := 4) (cs := (TState.lit a1)) rfl ⟨rfl, by decide, rfl⟩ rfl) <| .op 0 rfl (asV rfl) <| .nil0) <| .seq ?_
  refine .reg0 (e1 := listEnv [(4, bo ((decide ((a0.Of.length : Int) ≤ 200)) && ((decide ((a0.Steps.length : Int) ≤ 300)) && (decide ((a1.Stack.length : Int) ≤ 200)))))]) (H1 := [⟨10, [(TGraph.lit a0)], 0, none⟩, ⟨4, [(TState.lit a1)], 0, none⟩]) rfl ?_ ?_
  · refine .o (faP fa29_5 rfl) <| .o (ldP rfl sz23 ag23 rfl) <| .o (lnR (l := a0.Of) sl23 rfl) <| .o (leI rfl rfl) <| .m rfl <| ?_
    by_cases c1 : (a0.Of.length : Int) ≤ 200
    · refine .g rfl (dt c1) (faP fa29_6 rfl) <| .g rfl (dt c1) (ldP rfl sz24 ag24 rfl) <| .g rfl (dt c1) (lnR (l := a0.Steps) sl24 rfl) <| .g rfl (dt c1) (leI rfl rfl) <| .o (pkTV rfl (dt c1) rfl) <| .m rfl <| ?_
      by_cases c2 : (a0.Steps.length : Int) ≤ 300
      · exact (.g rfl (dt c2) (faP fa33_3 rfl) <| .g rfl (dt c2) (ldP rfl sz23 ag23 rfl) <| .g rfl (dt c2) (lnR (l := a1.Stack) sl23 rfl) <| .g rfl (dt c2) (leI rfl rfl) <| .o (pkTV rfl (dt c2) rfl) <| .a rfl <| .nilL _ ⟨cB rfl (mAndT (dt c1) (mAndT (dt c2) rfl)), trivial⟩)
      · exact (.n rfl (df c2) <| .n rfl (df c2) <| .n rfl (df c2) <| .n rfl (df c2) <| .o (pkFV rfl (df c2) rfl) <| .a rfl <| .nilL _ ⟨cB rfl (mAndT (dt c1) (mAndF (df c2))), trivial⟩)
    · exact (.n rfl (df c1) <| .n rfl (df c1) <| .n rfl (df c1) <| .n rfl (df c1) <| .o (pkFV rfl (df c1) rfl) <| .m rfl <| .n rfl rfl <| .n rfl rfl <| .n rfl rfl <| .n rfl rfl <| .o (pkFV rfl rfl rfl) <| .a rfl <| .nilL _ ⟨cB rfl (mAndF (df c1)), trivial⟩)
  replace h := h.symm
  subst h
  refine .kf [(4, bo ((decide ((a0.Of.length : Int) ≤ 200)) && ((decide ((a0.Steps.length : Int) ≤ 300)) && (decide ((a1.Stack.length : Int) ≤ 200)))))] rfl rfl ?_
  exact .ret rfl
def graph_in.f (a0 : Int) (a1 : Int) (r : Bool) : Prop :=
  r = ((decide (a0 ≥ 0)) && (decide (a0 < a1)))
theorem graph_in.D {a0 a1 r} (h : graph_in.f a0 a1 r) : D Tryz.prog X (.callH 45 [.val (.int .i64 a0), .val (.int .i64 a1)] [] (.val (.bool r)) []) := by
  unfold graph_in.f at h
  refine .enter 12 0 fn45 rfl rfl rfl <| .seq <| .reg0 rfl (.op 0 rfl (asV rfl) <| .nil0) <| .seq ?_
  refine .reg0 (e1 := listEnv [(4, bo ((decide (a0 ≥ 0)) && (decide (a0 < a1))))]) (H1 := []) rfl ?_ ?_
  · refine .m rfl <| .o (geI rfl rfl) <| .m rfl <| ?_
    by_cases c1 : a0 ≥ 0
    · exact (.g rfl (dt c1) (mvV rfl) <| .g rfl (dt c1) (mvV rfl) <| .g rfl (dt c1) (ltI rfl rfl) <| .o (pkTV rfl (dt c1) rfl) <| .a rfl <| .nilL _ ⟨cB rfl (mAndT (dt c1) rfl), trivial⟩)
    · exact (.n rfl (df c1) <| .n rfl (df c1) <| .n rfl (df c1) <| .o (pkFV rfl (df c1) rfl) <| .a rfl <| .nilL _ ⟨cB rfl (mAndF (df c1)), trivial⟩)
  replace h := h.symm
  subst h
  refine .kf [(4, bo ((decide (a0 ≥ 0)) && (decide (a0 < a1))))] rfl rfl ?_
  exact .ret rfl
def slices_IndexFunc_int.b1 (a0 : List Int) (a1 : Int → Bool → Prop) : Int → Rnd Int Unit Int → Prop := fun x1 z1 => if x1 < (a0.length : Int) then (((InR x1 a0.length)) ∧ ∃ t15_5 : Bool, (a1 (rdl a0 x1) t15_5) ∧ if t15_5 = true then (z1 = .ret x1) else (z1 = .next (IntKind.i64.wrap (x1 + 1)))) else (z1 = .exit ())
def slices_IndexFunc_int.f (a0 : List Int) (a1 : Int → Bool → Prop) (r : Int) : Prop :=
  ∃ o1 : Fin Unit Int, Loop (slices_IndexFunc_int.b1 a0 a1) 0 o1 ∧ o1.on (fun _ => r = (-1)) (fun r_ => r = r_)
theorem slices_IndexFunc_int.D {a0 : List Int} {a1 : Int → Bool → Prop} {r : Int} {c1_ : FuncId} {k1_ : List PV} (hg1_ : isGo Tryz.prog c1_ = true) (hk1_ : PV.free deep (.clo c1_ k1_) = true) (hka1_ : k1_.all (PV.free deep) = true) (hq1_ : ∀ x0_ y_, a1 x0_ y_ → D Tryz.prog X (.callH c1_ ([.val (.int .i64 x0_)] ++ k1_) [] (.val (.bool y_)) [])) (h : slices_IndexFunc_int.f a0 a1 r) : D Tryz.prog X (.callH 93 [.rows (a0.map (cInt .i64)), .clo c1_ k1_] [] (.val (.int .i64 r)) []) := by
  unfold slices_IndexFunc_int.f at h
  refine .enter 19 0 fn93 rfl rfl rfl <| .seq <| .reg0 rfl (.op 0 rfl (asV rfl) <| .nil0) <| .seq <| .seq <| .reg0 rfl (.op 0 rfl (mvR rfl) <| .op 0 rfl (lnR (l := a0) sl23 rfl) <| .op 0 rfl (mvV rfl) <| .nil0) <| .block <| .keepL [] [(0, .rows (a0.map (cInt .i64))), (1, .clo c1_ k1_), (7, i6 (a0.length : Int)), (8, i6 0)] [] (by decide) (by decide) ⟨.free rfl rfl, .free rfl hk1_, .free rfl rfl, .free rfl rfl, trivial⟩ trivial ?_
  obtain ⟨o1, hL1, h⟩ := h
  refine .loopB (slices_IndexFunc_int.b1 a0 a1) (fun x1 => listEnv [(0, .rows (a0.map (cInt .i64))), (1, .clo c1_ k1_), (7, i6 (a0.length : Int)), (8, i6 x1)]) (fun x1 => []) (fun _ => listEnv []) (fun _ => []) hL1 (fun r_ => r = r_) ?_ ?_ ?_
  · rintro ⟨⟩ rfl
    try dsimp only [Fin.on] at h
    refine .seq <| .reg0 rfl (.op 0 rfl (asV rfl) <| .nil0) ?_
    replace h := h.symm
    subst h
    refine .kf [(4, i6 (-1))] rfl rfl ?_
    exact .ret rfl
  · rintro r_ rfl
    exact h
  · rintro x1 z1 h hn1 hx1 hr1
    dsimp only [slices_IndexFunc_int.b1] at h
    refine .seq <| .reg0 rfl (.op 0 rfl (ltI rfl rfl) <| .nil0) <| .seq ?_
    by_cases c5 : x1 < (a0.length : Int)
    · rw [if_pos c5] at h
      refine .condT rfl (dt c5) <| .skip <| .seq <| .block <| .seq <| .reg0 rfl (.op 0 rfl (mvV rfl) <| .op 0 rfl (asV rfl) <| .nil0) <| .seq ?_
      obtain ⟨g15_3, h⟩ := h
      obtain ⟨t15_5, g15_5, h⟩ := h
      refine .reg0 rfl (.o (mvF rfl) <| .o (mvR rfl) <| .m rfl <| .o (ixR (l := a0) (lit := (cInt .i64)) sl23 rfl rfl (fun _ => rfl) g15_3.1 g15_3.2) <| .o (ldC rfl sz3 ag3 rfl) <| .callI rfl (callee_of rfl hg1_ rfl) (.pure (allCons rfl hka1_) rfl (hq1_ _ _ g15_5)) <| .nil0) ?_
      by_cases c6 : t15_5 = true
      · rw [if_pos c6] at h
        refine .condT rfl c6 <| .seq <| .reg0 rfl (.op 0 rfl (mvV rfl) <| .op 0 rfl (asV rfl) <| .nil0) ?_
        have q3 := hr1 _ h
        replace q3 := q3.symm
        subst q3
        refine .kf [(4, i6 x1)] rfl rfl ?_
        exact .ret rfl
      · rw [if_neg c6] at h
        refine .condF rfl (nb c6) <| .skip <| .inBlock <| .reg0 rfl (.op 0 rfl (addI rfl rfl) <| .op 0 rfl (mvV rfl) <| .nil0) <| .k [(0, .rows (a0.map (cInt .i64))), (1, .clo c1_ k1_), (7, i6 (a0.length : Int)), (8, i6 (IntKind.i64.wrap (x1 + 1)))] ⟨.free rfl rfl, .free rfl hk1_, .free rfl rfl, .free rfl rfl, trivial⟩ ?_
        exact hn1 _ h
    · rw [if_neg c5] at h
      refine .condF rfl (df c5) <| .exit rfl <| .keepL [] [] [] (by decide) (by decide) trivial trivial ?_
      exact hx1 _ h
def slices_ContainsFunc_int.f (a0 : List Int) (a1 : Int → Bool → Prop) (r : Bool) : Prop :=
  ∃ t2_2 : Int, (slices_IndexFunc_int.f a0 a1 t2_2) ∧ r = (decide (t2_2 ≥ 0))
theorem slices_ContainsFunc_int.D {a0 : List Int} {a1 : Int → Bool → Prop} {r : Bool} {c1_ : FuncId} {k1_ : List PV} (hg1_ : isGo Tryz.prog c1_ = true) (hk1_ : PV.free deep (.clo c1_ k1_) = true) (hka1_ : k1_.all (PV.free deep) = true) (hq1_ : ∀ x0_ y_, a1 x0_ y_ → D Tryz.prog X (.callH c1_ ([.val (.int .i64 x0_)] ++ k1_) [] (.val (.bool y_)) [])) (h : slices_ContainsFunc_int.f a0 a1 r) : D Tryz.prog X (.callH 67 [.rows (a0.map (cInt .i64)), .clo c1_ k1_] [] (.val (.bool r)) []) := by
  unfold slices_ContainsFunc_int.f at h
  refine .enter 9 0 fn67 rfl rfl rfl <| .seq <| .reg0 rfl (.op 0 rfl (asV rfl) <| .nil0) <| .seq ?_
  obtain ⟨t2_2, g2_2, h⟩ := h
  refine .reg0 rfl (.o (mvR rfl) <| .o (mvF rfl) <| .callI rfl (callee_of rfl go93 rfl) (.pure (allCons rfl (allCons hk1_ rfl)) rfl (slices_IndexFunc_int.D hg1_ hk1_ hka1_ hq1_ g2_2)) <| .o (geI rfl rfl) <| .a rfl <| .nil0) ?_
  replace h := h.symm
  subst h
  refine .kf [(4, bo (decide (t2_2 ≥ 0)))] rfl rfl ?_
  exact .ret rfl
def graph_procsRight_1.f (a0 : Int) (f0 : Int) (r : Bool) : Prop :=
  ∃ t2_2 : Bool, (graph_in.f a0 f0 t2_2) ∧ r = (!t2_2)
theorem graph_procsRight_1.D {a0 f0 r} (h : graph_procsRight_1.f a0 f0 r) : D Tryz.prog X (.callH 68 [.val (.int .i64 a0), .cptr ((cInt .i64) f0) 0] [] (.val (.bool r)) []) := by
  unfold graph_procsRight_1.f at h
  refine .enter 8 0 fn68 rfl rfl rfl <| .seq <| .reg0 rfl (.op 0 rfl (asV rfl) <| .nil0) <| .seq ?_
  obtain ⟨t2_2, g2_2, h⟩ := h
  refine .reg0 rfl (.m rfl <| .o (ldC rfl sz3 ag3 rfl) <| .c rfl go45 rfl rfl rfl (graph_in.D g2_2) <| .o (notB rfl) <| .a rfl <| .nil0) ?_
  replace h := h.symm
  subst h
  refine .kf [(3, bo (!t2_2))] rfl rfl ?_
  exact .ret rfl
def slices_IndexFunc_Site.b1 (a0 : List TSite) (a1 : TSite → Bool → Prop) : Int → Rnd Int Unit Int → Prop := fun x1 z1 => if x1 < (a0.length : Int) then (((InR x1 a0.length)) ∧ ∃ t15_5 : Bool, (a1 (rdl a0 x1) t15_5) ∧ if t15_5 = true then (z1 = .ret x1) else (z1 = .next (IntKind.i64.wrap (x1 + 1)))) else (z1 = .exit ())
def slices_IndexFunc_Site.f (a0 : List TSite) (a1 : TSite → Bool → Prop) (r : Int) : Prop :=
  ∃ o1 : Fin Unit Int, Loop (slices_IndexFunc_Site.b1 a0 a1) 0 o1 ∧ o1.on (fun _ => r = (-1)) (fun r_ => r = r_)
theorem slices_IndexFunc_Site.D {a0 : List TSite} {a1 : TSite → Bool → Prop} {r : Int} {c1_ : FuncId} {k1_ : List PV} (hg1_ : isGo Tryz.prog c1_ = true) (hk1_ : PV.free deep (.clo c1_ k1_) = true) (hka1_ : k1_.all (PV.free deep) = true) (hq1_ : ∀ x0_ y_, a1 x0_ y_ → D Tryz.prog X (.callH c1_ ([.agg (TSite.lit x0_)] ++ k1_) [] (.val (.bool y_)) [])) (h : slices_IndexFunc_Site.f a0 a1 r) : D Tryz.prog X (.callH 94 [.rows (a0.map TSite.cells), .clo c1_ k1_] [] (.val (.int .i64 r)) []) := by
  unfold slices_IndexFunc_Site.f at h
  refine .enter 19 0 fn94 rfl rfl rfl <| .seq <| .reg0 rfl (.op 0 rfl (asV rfl) <| .nil0) <| .seq <| .seq <| .reg0 rfl (.op 0 rfl (mvR rfl) <| .op 0 rfl (lnR (l := a0) sl25 rfl) <| .op 0 rfl (mvV rfl) <| .nil0) <| .block <| .keepL [] [(0, .rows (a0.map TSite.cells)), (1, .clo c1_ k1_), (7, i6 (a0.length : Int)), (8, i6 0)] [] (by decide) (by decide) ⟨.free rfl rfl, .free rfl hk1_, .free rfl rfl, .free rfl rfl, trivial⟩ trivial ?_
  obtain ⟨o1, hL1, h⟩ := h
  refine .loopB (slices_IndexFunc_Site.b1 a0 a1) (fun x1 => listEnv [(0, .rows (a0.map TSite.cells)), (1, .clo c1_ k1_), (7, i6 (a0.length : Int)), (8, i6 x1)]) (fun x1 => []) (fun _ => listEnv []) (fun _ => []) hL1 (fun r_ => r = r_) ?_ ?_ ?_
  · rintro ⟨⟩ rfl
    try dsimp only [Fin.on] at h
    refine .seq <| .reg0 rfl (.op 0 rfl (asV rfl) <| .nil0) ?_
    replace h := h.symm
    subst h
    refine .kf [(4, i6 (-1))] rfl rfl ?_
    exact .ret rfl
  · rintro r_ rfl
    exact h
  · rintro x1 z1 h hn1 hx1 hr1
    dsimp only [slices_IndexFunc_Site.b1] at h
    refine .seq <| .reg0 rfl (.op 0 rfl (ltI rfl rfl) <| .nil0) <| .seq ?_
    by_cases c5 : x1 < (a0.length : Int)
    · rw [if_pos c5] at h
      refine .condT rfl (dt c5) <| .skip <| .seq <| .block <| .seq <| .reg0 rfl (.op 0 rfl (mvV rfl) <| .op 0 rfl (asV rfl) <| .nil0) <| .seq ?_
      obtain ⟨g15_3, h⟩ := h
      obtain ⟨t15_5, g15_5, h⟩ := h
      refine .reg0 rfl (.o (mvF rfl) <| .o (mvR rfl) <| .m rfl <| .o (ixR (l := a0) (lit := TSite.lit) sl25 rfl rfl (fun _ => rfl) g15_3.1 g15_3.2) <| .o (ldCG rfl sz70 ag70 rfl) <| .callI rfl (callee_of rfl hg1_ rfl) (.pure (allCons rfl hka1_) rfl (hq1_ _ _ g15_5)) <| .nil0) ?_
      by_cases c6 : t15_5 = true
      · rw [if_pos c6] at h
        refine .condT rfl c6 <| .seq <| .reg0 rfl (.op 0 rfl (mvV rfl) <| .op 0 rfl (asV rfl) <| .nil0) ?_
        have q3 := hr1 _ h
        replace q3 := q3.symm
        subst q3
        refine .kf [(4, i6 x1)] rfl rfl ?_
        exact .ret rfl
      · rw [if_neg c6] at h
        refine .condF rfl (nb c6) <| .skip <| .inBlock <| .reg0 rfl (.op 0 rfl (addI rfl rfl) <| .op 0 rfl (mvV rfl) <| .nil0) <| .k [(0, .rows (a0.map TSite.cells)), (1, .clo c1_ k1_), (7, i6 (a0.length : Int)), (8, i6 (IntKind.i64.wrap (x1 + 1)))] ⟨.free rfl rfl, .free rfl hk1_, .free rfl rfl, .free rfl rfl, trivial⟩ ?_
        exact hn1 _ h
    · rw [if_neg c5] at h
      refine .condF rfl (df c5) <| .exit rfl <| .keepL [] [] [] (by decide) (by decide) trivial trivial ?_
      exact hx1 _ h
def slices_ContainsFunc_Site.f (a0 : List TSite) (a1 : TSite → Bool → Prop) (r : Bool) : Prop :=
  ∃ t2_2 : Int, (slices_IndexFunc_Site.f a0 a1 t2_2) ∧ r = (decide (t2_2 ≥ 0))
theorem slices_ContainsFunc_Site.D {a0 : List TSite} {a1 : TSite → Bool → Prop} {r : Bool} {c1_ : FuncId} {k1_ : List PV} (hg1_ : isGo Tryz.prog c1_ = true) (hk1_ : PV.free deep (.clo c1_ k1_) = true) (hka1_ : k1_.all (PV.free deep) = true) (hq1_ : ∀ x0_ y_, a1 x0_ y_ → D Tryz.prog X (.callH c1_ ([.agg (TSite.lit x0_)] ++ k1_) [] (.val (.bool y_)) [])) (h : slices_ContainsFunc_Site.f a0 a1 r) : D Tryz.prog X (.callH 69 [.rows (a0.map TSite.cells), .clo c1_ k1_] [] (.val (.bool r)) []) := by
  unfold slices_ContainsFunc_Site.f at h
  refine .enter 9 0 fn69 rfl rfl rfl <| .seq <| .reg0 rfl (.op 0 rfl (asV rfl) <| .nil0) <| .seq ?_
  obtain ⟨t2_2, g2_2, h⟩ := h
  refine .reg0 rfl (.o (mvR rfl) <| .o (mvF rfl) <| .callI rfl (callee_of rfl go94 rfl) (.pure (allCons rfl (allCons hk1_ rfl)) rfl (slices_IndexFunc_Site.D hg1_ hk1_ hka1_ hq1_ g2_2)) <| .o (geI rfl rfl) <| .a rfl <| .nil0) ?_
  replace h := h.symm
  subst h
  refine .kf [(4, bo (decide (t2_2 ≥ 0)))] rfl rfl ?_
  exact .ret rfl
def graph_procsRight_2.f (a0 : TSite) (f0 : Int) (r : Bool) : Prop :=
  ∃ t2_3 : Bool, (graph_in.f a0.Proc f0 t2_3) ∧ r = (!t2_3)
theorem graph_procsRight_2.D {a0 f0 r} (h : graph_procsRight_2.f a0 f0 r) : D Tryz.prog X (.callH 70 [.agg (TSite.lit a0), .cptr ((cInt .i64) f0) 0] [] (.val (.bool r)) []) := by
  unfold graph_procsRight_2.f at h
  refine .enter 9 0 fn70 rfl rfl rfl <| .seq <| .room 0 <| .reg0 rfl (.op 0 rfl (bxP (s := 4) (cs := (TSite.lit a0)) rfl ⟨rfl, by decide, rfl⟩ rfl) <| .op 0 rfl (asV rfl) <| .nil0) <| .seq ?_
  obtain ⟨t2_3, g2_3, h⟩ := h
  refine .reg0 rfl (.o (faP fa70_1 rfl) <| .o (ldP rfl sz3 ag3 rfl) <| .o (ldC rfl sz3 ag3 rfl) <| .c rfl go45 rfl rfl rfl (graph_in.D g2_3) <| .o (notB rfl) <| .a rfl <| .nil0) ?_
  replace h := h.symm
  subst h
  refine .kf [(3, bo (!t2_3))] rfl rfl ?_
  exact .ret rfl
def graph_procsRight.b2 (a0 : TGraph) (x2 : Int) : Int → Rnd Int Unit Bool → Prop := fun x4 z2 => if x4 < ([(rdl a0.Entry x2), (rdl a0.Exit x2)].length : Int) then (((InR x4 ([(rdl a0.Entry x2), (rdl a0.Exit x2)].length))) ∧ ∃ t51_4 : Bool, (graph_in.f (rdl [(rdl a0.Entry x2), (rdl a0.Exit x2)] x4) (a0.Of.length : Int) t51_4) ∧ ((t51_4 = true) → (InR (rdl [(rdl a0.Entry x2), (rdl a0.Exit x2)] x4) a0.Of.length)) ∧ if ((!t51_4) || ((rdl a0.Of (rdl [(rdl a0.Entry x2), (rdl a0.Exit x2)] x4)) != x2)) = true then (z2 = .ret false) else (z2 = .next (IntKind.i64.wrap (x4 + 1)))) else (z2 = .exit ())
def graph_procsRight.b1 (a0 : TGraph) : Int → Rnd Int Unit Bool → Prop := fun x2 z1 => if x2 < (a0.Procs.length : Int) then (((InR x2 a0.Entry.length)) ∧ ((InR x2 a0.Exit.length)) ∧ ∃ o2 : Fin Unit Bool, Loop (graph_procsRight.b2 a0 x2) 0 o2 ∧ o2.on (fun _ => z1 = .next (IntKind.i64.wrap (x2 + 1))) (fun r_ => z1 = .ret r_)) else (z1 = .exit ())
def graph_procsRight.f (a0 : TGraph) (r : Bool) : Prop :=
  ∃ t3_36 : Bool, (¬ ((a0.Vars.length : Int) > 64) → ¬ ((a0.Procs.length : Int) < 1) → ¬ ((a0.Procs.length : Int) > 1024) → ((a0.Entry.length : Int) = (a0.Procs.length : Int)) → ((a0.Exit.length : Int) = (a0.Procs.length : Int)) → ¬ ((a0.Of.length : Int) > 4096) → graph_in.f a0.Main (a0.Procs.length : Int) t3_36) ∧ if ((decide ((a0.Vars.length : Int) > 64)) || ((decide ((a0.Procs.length : Int) < 1)) || ((decide ((a0.Procs.length : Int) > 1024)) || ((!((a0.Entry.length : Int) == (a0.Procs.length : Int))) || ((!((a0.Exit.length : Int) == (a0.Procs.length : Int))) || ((decide ((a0.Of.length : Int) > 4096)) || (!t3_36))))))) = true then (r = false) else (∃ t5_3 : Bool, (slices_ContainsFunc_int.f a0.Of (fun x0_ y_ => graph_procsRight_1.f x0_ (a0.Procs.length : Int) y_) t5_3) ∧ if t5_3 = true then (r = false) else (∃ o1 : Fin Unit Bool, Loop (graph_procsRight.b1 a0) 0 o1 ∧ o1.on (fun _ => ∃ t55_8 : Bool, (((a0.Sites.length : Int) ≤ 1024) → slices_ContainsFunc_Site.f a0.Sites (fun x0_ y_ => graph_procsRight_2.f x0_ (a0.Procs.length : Int) y_) t55_8) ∧ r = ((decide ((a0.Sites.length : Int) ≤ 1024)) && (!t55_8))) (fun r_ => r = r_)))
theorem graph_procsRight.D {a0 r} (h : graph_procsRight.f a0 r) : D Tryz.prog X (.callH 41 [.agg (TGraph.lit a0)] [] (.val (.bool r)) []) := by
  unfold graph_procsRight.f at h
  refine .enter 101 0 fn41 rfl rfl rfl <| .seq <| .room 0 <| .reg0 rfl (.op 0 rfl (bxP (s := 10) (cs := (TGraph.lit a0)) rfl ⟨rfl, by decide, rfl⟩ rfl) <| .op 0 rfl (asV rfl) <| .nil0) <| .seq <| .room 0 <| .reg0 rfl (.op 0 rfl (faP fa29_1 rfl) <| .op 0 rfl (ldP rfl sz22 ag22 rfl) <| .op 0 rfl (lnR (l := a0.Procs) sl22 rfl) <| .op 1 rfl (alP (s := 1) ze3 ⟨rfl, by decide, rfl⟩ rfl) <| .op 0 rfl (stB (cs0 := [i6 0]) (cs := [i6 (a0.Procs.length : Int)]) (cs1 := [i6 (a0.Procs.length : Int)]) rfl rfl sz3 rfl ⟨Nat.le_of_ble_eq_true rfl, rfl⟩ rfl) <| .nil0) ?_
  refine .seq <| .seq ?_
  obtain ⟨t3_36, g3_36, h⟩ := h
  refine .reg0 (e1 := listEnv [(1, .ptr 0 1 10 0 0), (3, .ptr 1 1 1 0 0), (48, bo ((decide ((a0.Vars.length : Int) > 64)) || ((decide ((a0.Procs.length : Int) < 1)) || ((decide ((a0.Procs.length : Int) > 1024)) || ((!((a0.Entry.length : Int) == (a0.Procs.length : Int))) || ((!((a0.Exit.length : Int) == (a0.Procs.length : Int))) || ((decide ((a0.Of.length : Int) > 4096)) || (!t3_36))))))))]) (H1 := [⟨10, [(TGraph.lit a0)], 0, none⟩, ⟨1, [[i6 (a0.Procs.length : Int)]], 0, none⟩]) rfl ?_ ?_
  · refine .o (faP fa29_0 rfl) <| .o (ldP rfl sz22 ag22 rfl) <| .o (lnR (l := a0.Vars) sl22 rfl) <| .o (gtI rfl rfl) <| .m rfl <| ?_
    by_cases c1 : (a0.Vars.length : Int) > 64
    · exact (.n rfl (dt c1) <| .n rfl (dt c1) <| .o (pkTV rfl (dt c1) rfl) <| .m rfl <| .n rfl rfl <| .n rfl rfl <| .o (pkTV rfl rfl rfl) <| .m rfl <| .n rfl rfl <| .n rfl rfl <| .n rfl rfl <| .n rfl rfl <| .n rfl rfl <| .o (pkTV rfl rfl rfl) <| .m rfl <| .n rfl rfl <| .n rfl rfl <| .n rfl rfl <| .n rfl rfl <| .n rfl rfl <| .o (pkTV rfl rfl rfl) <| .m rfl <| .n rfl rfl <| .n rfl rfl <| .n rfl rfl <| .n rfl rfl <| .o (pkTV rfl rfl rfl) <| .m rfl <| .n rfl rfl <| .n rfl rfl <| .n rfl rfl <| .n rfl rfl <| .n rfl rfl <| .o (pkTV rfl rfl rfl) <| .nilL _ ⟨.ptr rfl, .ptr rfl, cB rfl (mOrT (dt c1)), trivial⟩)
    · refine .g rfl (df c1) (ldP rfl sz3 ag3 rfl) <| .g rfl (df c1) (ltI rfl rfl) <| .o (pkFV rfl (df c1) rfl) <| .m rfl <| ?_
      by_cases c2 : (a0.Procs.length : Int) < 1
      · exact (.n rfl (dt c2) <| .n rfl (dt c2) <| .o (pkTV rfl (dt c2) rfl) <| .m rfl <| .n rfl rfl <| .n rfl rfl <| .n rfl rfl <| .n rfl rfl <| .n rfl rfl <| .o (pkTV rfl rfl rfl) <| .m rfl <| .n rfl rfl <| .n rfl rfl <| .n rfl rfl <| .n rfl rfl <| .n rfl rfl <| .o (pkTV rfl rfl rfl) <| .m rfl <| .n rfl rfl <| .n rfl rfl <| .n rfl rfl <| .n rfl rfl <| .o (pkTV rfl rfl rfl) <| .m rfl <| .n rfl rfl <| .n rfl rfl <| .n rfl rfl <| .n rfl rfl <| .n rfl rfl <| .o (pkTV rfl rfl rfl) <| .nilL _ ⟨.ptr rfl, .ptr rfl, cB rfl (mOrF (df c1) (mOrT (dt c2))), trivial⟩)
      · refine .g rfl (df c2) (ldP rfl sz3 ag3 rfl) <| .g rfl (df c2) (gtI rfl rfl) <| .o (pkFV rfl (df c2) rfl) <| .m rfl <| ?_
        by_cases c3 : (a0.Procs.length : Int) > 1024
        · exact (.n rfl (dt c3) <| .n rfl (dt c3) <| .n rfl (dt c3) <| .n rfl (dt c3) <| .n rfl (dt c3) <| .o (pkTV rfl (dt c3) rfl) <| .m rfl <| .n rfl rfl <| .n rfl rfl <| .n rfl rfl <| .n rfl rfl <| .n rfl rfl <| .o (pkTV rfl rfl rfl) <| .m rfl <| .n rfl rfl <| .n rfl rfl <| .n rfl rfl <| .n rfl rfl <| .o (pkTV rfl rfl rfl) <| .m rfl <| .n rfl rfl <| .n rfl rfl <| .n rfl rfl <| .n rfl rfl <| .n rfl rfl <| .o (pkTV rfl rfl rfl) <| .nilL _ ⟨.ptr rfl, .ptr rfl, cB rfl (mOrF (df c1) (mOrF (df c2) (mOrT (dt c3)))), trivial⟩)
        · refine .g rfl (df c3) (faP fa29_2 rfl) <| .g rfl (df c3) (ldP rfl sz23 ag23 rfl) <| .g rfl (df c3) (lnR (l := a0.Entry) sl23 rfl) <| .g rfl (df c3) (ldP rfl sz3 ag3 rfl) <| .g rfl (df c3) (neI rfl rfl) <| .o (pkFV rfl (df c3) rfl) <| .m rfl <| ?_
          by_cases c4 : (a0.Entry.length : Int) = (a0.Procs.length : Int)
          · refine .g rfl (nf c4) (faP fa29_3 rfl) <| .g rfl (nf c4) (ldP rfl sz23 ag23 rfl) <| .g rfl (nf c4) (lnR (l := a0.Exit) sl23 rfl) <| .g rfl (nf c4) (ldP rfl sz3 ag3 rfl) <| .g rfl (nf c4) (neI rfl rfl) <| .o (pkFV rfl (nf c4) rfl) <| .m rfl <| ?_
            by_cases c5 : (a0.Exit.length : Int) = (a0.Procs.length : Int)
            · refine .g rfl (nf c5) (faP fa29_5 rfl) <| .g rfl (nf c5) (ldP rfl sz23 ag23 rfl) <| .g rfl (nf c5) (lnR (l := a0.Of) sl23 rfl) <| .g rfl (nf c5) (gtI rfl rfl) <| .o (pkFV rfl (nf c5) rfl) <| .m rfl <| ?_
              by_cases c6 : (a0.Of.length : Int) > 4096
              · exact (.n rfl (dt c6) <| .n rfl (dt c6) <| .n rfl (dt c6) <| .n rfl (dt c6) <| .n rfl (dt c6) <| .o (pkTV rfl (dt c6) rfl) <| .nilL _ ⟨.ptr rfl, .ptr rfl, cB rfl (mOrF (df c1) (mOrF (df c2) (mOrF (df c3) (mOrF (bnotF (bt c4)) (mOrF (bnotF (bt c5)) (mOrT (dt c6))))))), trivial⟩)
              · exact (.g rfl (df c6) (faP fa29_4 rfl) <| .g rfl (df c6) (ldP rfl sz3 ag3 rfl) <| .g rfl (df c6) (ldP rfl sz3 ag3 rfl) <| .callI (gT rfl rfl rfl (df c6)) (callee_of rfl go45 rfl) (.pure rfl rfl (graph_in.D (g3_36 c1 c2 c3 c4 c5 c6))) <| .g rfl (df c6) (notB rfl) <| .o (pkFV rfl (df c6) rfl) <| .nilL _ ⟨.ptr rfl, .ptr rfl, cB rfl (mOrF (df c1) (mOrF (df c2) (mOrF (df c3) (mOrF (bnotF (bt c4)) (mOrF (bnotF (bt c5)) (mOrF (df c6) rfl)))))), trivial⟩)
            · exact (.n rfl (nt c5) <| .n rfl (nt c5) <| .n rfl (nt c5) <| .n rfl (nt c5) <| .o (pkTV rfl (nt c5) rfl) <| .m rfl <| .n rfl rfl <| .n rfl rfl <| .n rfl rfl <| .n rfl rfl <| .n rfl rfl <| .o (pkTV rfl rfl rfl) <| .nilL _ ⟨.ptr rfl, .ptr rfl, cB rfl (mOrF (df c1) (mOrF (df c2) (mOrF (df c3) (mOrF (bnotF (bt c4)) (mOrT (bnotT (bn c5))))))), trivial⟩)
          · exact (.n rfl (nt c4) <| .n rfl (nt c4) <| .n rfl (nt c4) <| .n rfl (nt c4) <| .n rfl (nt c4) <| .o (pkTV rfl (nt c4) rfl) <| .m rfl <| .n rfl rfl <| .n rfl rfl <| .n rfl rfl <| .n rfl rfl <| .o (pkTV rfl rfl rfl) <| .m rfl <| .n rfl rfl <| .n rfl rfl <| .n rfl rfl <| .n rfl rfl <| .n rfl rfl <| .o (pkTV rfl rfl rfl) <| .nilL _ ⟨.ptr rfl, .ptr rfl, cB rfl (mOrF (df c1) (mOrF (df c2) (mOrF (df c3) (mOrT (bnotT (bn c4)))))), trivial⟩)
  by_cases c7 : ((decide ((a0.Vars.length : Int) > 64)) || ((decide ((a0.Procs.length : Int) < 1)) || ((decide ((a0.Procs.length : Int) > 1024)) || ((!((a0.Entry.length : Int) == (a0.Procs.length : Int))) || ((!((a0.Exit.length : Int) == (a0.Procs.length : Int))) || ((decide ((a0.Of.length : Int) > 4096)) || (!t3_36))))))) = true
  · rw [if_pos c7] at h
    refine .condT rfl c7 <| .seq <| .reg0 rfl (.op 0 rfl (asV rfl) <| .nil0) ?_
    replace h := h.symm
    subst h
    refine .kf [(2, bo false)] rfl rfl ?_
    exact .ret rfl
  · rw [if_neg c7] at h
    refine .condF rfl (nb c7) <| .skip <| .seq <| .seq ?_
    obtain ⟨t5_3, g5_3, h⟩ := h
    refine .reg0 rfl (.o (faP fa29_5 rfl) <| .o (ldP rfl sz23 ag23 rfl) <| .o (mkF rfl) <| .callI rfl (callee_of rfl go67 rfl) (.lendC (args' := [.rows (a0.Of.map (cInt .i64)), .clo 68 [.cptr [i6 (a0.Procs.length : Int)] 0]])  [1] false (.cons (.free rfl rfl) <| .cons (cClo (.cons (cFixP rfl rfl (.cons (.free rfl rfl) <| .nil)) <| .nil)) <| .nil) (by decide) rfl rfl rfl rfl (slices_ContainsFunc_int.D (k1_ := [.cptr [i6 (a0.Procs.length : Int)] 0]) go68 rfl rfl (fun x0_ y_ h_ => graph_procsRight_1.D h_) g5_3)) <| .nil0) ?_
    by_cases c8 : t5_3 = true
    · rw [if_pos c8] at h
      refine .condT rfl c8 <| .seq <| .reg0 rfl (.op 0 rfl (asV rfl) <| .nil0) ?_
      replace h := h.symm
      subst h
      refine .kf [(2, bo false)] rfl rfl ?_
      exact .ret rfl
    · rw [if_neg c8] at h
      refine .condF rfl (nb c8) <| .skip <| .seq <| .seq <| .reg0 rfl (.op 0 rfl (ldP rfl sz3 ag3 rfl) <| .op 0 rfl (mvV rfl) <| .nil0) <| .block <| .keepL [0, 1] [(1, .ptr 0 1 10 0 0), (3, .ptr 1 1 1 0 0), (53, i6 (a0.Procs.length : Int)), (54, i6 0)] [⟨10, [(TGraph.lit a0)], 0, none⟩, ⟨1, [[i6 (a0.Procs.length : Int)]], 0, none⟩] (by decide) (by decide) ⟨.ptr rfl, .ptr rfl, .free rfl rfl, .free rfl rfl, trivial⟩ ⟨⟨_, rfl, bcBox (all2_free rfl)⟩, ⟨_, rfl, bcBox (all2_free rfl)⟩, trivial⟩ ?_
      obtain ⟨o1, hL1, h⟩ := h
      refine .loopB (graph_procsRight.b1 a0) (fun x2 => listEnv [(1, .ptr 0 1 10 0 0), (3, .ptr 1 1 1 0 0), (53, i6 (a0.Procs.length : Int)), (54, i6 x2)]) (fun x2 => [⟨10, [(TGraph.lit a0)], 0, none⟩, ⟨1, [[i6 (a0.Procs.length : Int)]], 0, none⟩]) (fun _ => listEnv [(1, .ptr 0 1 10 0 0), (3, .ptr 1 1 1 0 0)]) (fun _ => [⟨10, [(TGraph.lit a0)], 0, none⟩, ⟨1, [[i6 (a0.Procs.length : Int)]], 0, none⟩]) hL1 (fun r_ => r = r_) ?_ ?_ ?_
      · rintro ⟨⟩ rfl
        try dsimp only [Fin.on] at h
        refine .seq ?_
        obtain ⟨t55_8, g55_8, h⟩ := h
        refine .reg0 (e1 := listEnv [(2, bo ((decide ((a0.Sites.length : Int) ≤ 1024)) && (!t55_8)))]) (H1 := [⟨10, [(TGraph.lit a0)], 0, none⟩, ⟨1, [[i6 (a0.Procs.length : Int)]], 0, none⟩]) rfl ?_ ?_
        · refine .o (faP fa29_7 rfl) <| .o (ldP rfl sz25 ag25 rfl) <| .o (lnR (l := a0.Sites) sl25 rfl) <| .o (leI rfl rfl) <| .m rfl <| ?_
          by_cases c33 : (a0.Sites.length : Int) ≤ 1024
          · exact (.g rfl (dt c33) (faP fa29_7 rfl) <| .g rfl (dt c33) (ldP rfl sz25 ag25 rfl) <| .g rfl (dt c33) (mkF rfl) <| .callI (gT rfl rfl rfl (dt c33)) (callee_of rfl go69 rfl) (.lendC (args' := [.rows (a0.Sites.map TSite.cells), .clo 70 [.cptr [i6 (a0.Procs.length : Int)] 0]])  [1] false (.cons (.free rfl rfl) <| .cons (cClo (.cons (cFixP rfl rfl (.cons (.free rfl rfl) <| .nil)) <| .nil)) <| .nil) (by decide) rfl rfl rfl rfl (slices_ContainsFunc_Site.D (k1_ := [.cptr [i6 (a0.Procs.length : Int)] 0]) go70 rfl rfl (fun x0_ y_ h_ => graph_procsRight_2.D h_) (g55_8 c33))) <| .g rfl (dt c33) (notB rfl) <| .o (pkTV rfl (dt c33) rfl) <| .a rfl <| .nilL _ ⟨cB rfl (mAndT (dt c33) rfl), trivial⟩)
          · exact (.n rfl (df c33) <| .n rfl (df c33) <| .n rfl (df c33) <| .n rfl (df c33) <| .n rfl (df c33) <| .o (pkFV rfl (df c33) rfl) <| .a rfl <| .nilL _ ⟨cB rfl (mAndF (df c33)), trivial⟩)
        replace h := h.symm
        subst h
        refine .kf [(2, bo ((decide ((a0.Sites.length : Int) ≤ 1024)) && (!t55_8)))] rfl rfl ?_
        exact .ret rfl
      · rintro r_ rfl
        exact h
      · rintro x2 z1 h hn1 hx1 hr1
        dsimp only [graph_procsRight.b1] at h
        refine .seq <| .reg0 rfl (.op 0 rfl (ltI rfl rfl) <| .nil0) <| .seq ?_
        by_cases c23 : x2 < (a0.Procs.length : Int)
        · rw [if_pos c23] at h
          refine .condT rfl (dt c23) <| .skip <| .seq <| .block <| .seq <| .reg0 rfl (.op 0 rfl (mvV rfl) <| .op 0 rfl (asV rfl) <| .nil0) <| .seq ?_
          obtain ⟨g38_3, h⟩ := h
          obtain ⟨g38_8, h⟩ := h
          refine .room 0 ?_
          refine .reg1 (e1 := listEnv [(1, .ptr 0 1 10 0 0), (3, .ptr 1 1 1 0 0), (4, i6 x2), (53, i6 (a0.Procs.length : Int)), (54, i6 x2), (67, .own 2 ([(rdl a0.Entry x2), (rdl a0.Exit x2)].length)), (68, i6 ([(rdl a0.Entry x2), (rdl a0.Exit x2)].length : Int)), (69, i6 0)]) (H1 := [⟨10, [(TGraph.lit a0)], 0, none⟩, ⟨1, [[i6 (a0.Procs.length : Int)]], 0, none⟩, ⟨1, [(rdl a0.Entry x2), (rdl a0.Exit x2)].map (cInt .i64), 0, none⟩]) rfl ?_ ?_
          · exact .drawM [(12, 69, i6 0), (11, 68, i6 ([(rdl a0.Entry x2), (rdl a0.Exit x2)].length : Int)), (10, 67, .own 2 ([(rdl a0.Entry x2), (rdl a0.Exit x2)].length)), (9, 66, i6 (rdl a0.Exit x2)), (8, 65, .cptr ((cInt .i64) (rdl a0.Exit x2)) 0), (7, 64, i6 x2), (6, 63, .rows (a0.Exit.map (cInt .i64))), (5, 62, .ptr 0 1 10 0 3), (4, 61, i6 (rdl a0.Entry x2)), (3, 60, .cptr ((cInt .i64) (rdl a0.Entry x2)) 0), (2, 59, i6 x2), (1, 58, .rows (a0.Entry.map (cInt .i64))), (0, 57, .ptr 0 1 10 0 2)] [(10, 2, ⟨1, [(rdl a0.Entry x2), (rdl a0.Exit x2)].map (cInt .i64), 0, none⟩)] [[], [0], [], [1, 0, 2], [3, 1, 0, 2], [], [5], [], [6, 5, 7], [8, 6, 5, 7], [4, 3, 1, 0, 2, 9, 8, 6, 5, 7], [10, 4, 3, 1, 0, 2, 9, 8, 6, 5, 7], []] (by rfl) (by rfl) (by rfl) (by exact ⟨oP (fun _ => faP fa29_2 rfl) rfl, oP (fun _ => ldP rfl sz23 ag23 rfl) rfl, oP (fun _ => mvV rfl) rfl, oP (fun _ => ixR (l := a0.Entry) (lit := (cInt .i64)) sl23 rfl rfl (fun _ => rfl) g38_3.1 g38_3.2) rfl, oP (fun _ => ldC rfl sz3 ag3 rfl) rfl, oP (fun _ => faP fa29_3 rfl) rfl, oP (fun _ => ldP rfl sz23 ag23 rfl) rfl, oP (fun _ => mvV rfl) rfl, oP (fun _ => ixR (l := a0.Exit) (lit := (cInt .i64)) sl23 rfl rfl (fun _ => rfl) g38_8.1 g38_8.2) rfl, oP (fun _ => ldC rfl sz3 ag3 rfl) rfl, oW 2 (fun _ => bldL (s := 1) (cs := [i6 (rdl a0.Entry x2), i6 (rdl a0.Exit x2)]) un23 sz3 ze3 ⟨by decide, rfl, by decide⟩ rfl rfl rfl rfl) rfl fun _ => rfl, oP (fun _ => lnO (l := [(rdl a0.Entry x2), (rdl a0.Exit x2)]) sl23 rfl rfl rfl) rfl, oP (fun _ => mvV rfl) rfl, trivial⟩) _ (by exact ⟨.ptr rfl, .ptr rfl, .free rfl rfl, .free rfl rfl, .free rfl rfl, .own rfl, .free rfl rfl, .free rfl rfl, trivial⟩) (by rfl)
          refine .block <| .keepL [0, 1, 2] [(1, .ptr 0 1 10 0 0), (3, .ptr 1 1 1 0 0), (4, i6 x2), (53, i6 (a0.Procs.length : Int)), (54, i6 x2), (67, .own 2 ([(rdl a0.Entry x2), (rdl a0.Exit x2)].length)), (68, i6 ([(rdl a0.Entry x2), (rdl a0.Exit x2)].length : Int)), (69, i6 0)] [⟨10, [(TGraph.lit a0)], 0, none⟩, ⟨1, [[i6 (a0.Procs.length : Int)]], 0, none⟩, ⟨1, [(rdl a0.Entry x2), (rdl a0.Exit x2)].map (cInt .i64), 0, none⟩] (by decide) (by decide) ⟨.ptr rfl, .ptr rfl, .free rfl rfl, .free rfl rfl, .free rfl rfl, .own rfl, .free rfl rfl, .free rfl rfl, trivial⟩ ⟨⟨_, rfl, bcBox (all2_free rfl)⟩, ⟨_, rfl, bcBox (all2_free rfl)⟩, ⟨_, rfl, bcRow (l := [(rdl a0.Entry x2), (rdl a0.Exit x2)]) sl23 (Nat.le_refl _) rfl⟩, trivial⟩ ?_
          obtain ⟨o2, hL2, h⟩ := h
          refine .loopB (graph_procsRight.b2 a0 x2) (fun x4 => listEnv [(1, .ptr 0 1 10 0 0), (3, .ptr 1 1 1 0 0), (4, i6 x2), (53, i6 (a0.Procs.length : Int)), (54, i6 x2), (67, .own 2 ([(rdl a0.Entry x2), (rdl a0.Exit x2)].length)), (68, i6 ([(rdl a0.Entry x2), (rdl a0.Exit x2)].length : Int)), (69, i6 x4)]) (fun x4 => [⟨10, [(TGraph.lit a0)], 0, none⟩, ⟨1, [[i6 (a0.Procs.length : Int)]], 0, none⟩, ⟨1, [(rdl a0.Entry x2), (rdl a0.Exit x2)].map (cInt .i64), 0, none⟩]) (fun _ => listEnv [(1, .ptr 0 1 10 0 0), (3, .ptr 1 1 1 0 0), (53, i6 (a0.Procs.length : Int)), (54, i6 x2)]) (fun _ => [⟨10, [(TGraph.lit a0)], 0, none⟩, ⟨1, [[i6 (a0.Procs.length : Int)]], 0, none⟩]) hL2 (fun r_ => z1 = .ret r_) ?_ ?_ ?_
          · rintro ⟨⟩ rfl
            try dsimp only [Fin.on] at h
            refine .inBlock <| .reg0 rfl (.op 0 rfl (addI rfl rfl) <| .op 0 rfl (mvV rfl) <| .nil0) <| .keepL [0, 1] [(1, .ptr 0 1 10 0 0), (3, .ptr 1 1 1 0 0), (53, i6 (a0.Procs.length : Int)), (54, i6 (IntKind.i64.wrap (x2 + 1)))] [⟨10, [(TGraph.lit a0)], 0, none⟩, ⟨1, [[i6 (a0.Procs.length : Int)]], 0, none⟩] (by decide) (by decide) ⟨.ptr rfl, .ptr rfl, .free rfl rfl, .free rfl rfl, trivial⟩ ⟨⟨_, rfl, bcBox (all2_free rfl)⟩, ⟨_, rfl, bcBox (all2_free rfl)⟩, trivial⟩ ?_
            exact hn1 _ h
          · rintro r_ rfl
            exact h
          · rintro x4 z2 h hn2 hx2 hr2
            dsimp only [graph_procsRight.b2] at h
            refine .seq <| .reg0 rfl (.op 0 rfl (ltI rfl rfl) <| .nil0) <| .seq ?_
            by_cases c30 : x4 < ([(rdl a0.Entry x2), (rdl a0.Exit x2)].length : Int)
            · rw [if_pos c30] at h
              refine .condT rfl (dt c30) <| .skip <| .seq <| .block <| .seq ?_
              obtain ⟨g50_0, h⟩ := h
              refine .reg0 rfl (.o (ixO (l := [(rdl a0.Entry x2), (rdl a0.Exit x2)]) sl23 rfl rfl rfl rfl g50_0.1 g50_0.2) <| .o (ldO (l := [(rdl a0.Entry x2), (rdl a0.Exit x2)]) (j := x4) sl23 rfl sz3 ag3 rfl rfl (fun _ => rfl) g50_0.1 g50_0.2 (by decide) rfl) <| .a rfl <| .nil0) <| .seq ?_
              obtain ⟨t51_4, g51_4, h⟩ := h
              obtain ⟨g51_10, h⟩ := h
              refine .reg0 (e1 := listEnv [(1, .ptr 0 1 10 0 0), (3, .ptr 1 1 1 0 0), (4, i6 x2), (53, i6 (a0.Procs.length : Int)), (54, i6 x2), (67, .own 2 ([(rdl a0.Entry x2), (rdl a0.Exit x2)].length)), (68, i6 ([(rdl a0.Entry x2), (rdl a0.Exit x2)].length : Int)), (69, i6 x4), (87, bo ((!t51_4) || ((rdl a0.Of (rdl [(rdl a0.Entry x2), (rdl a0.Exit x2)] x4)) != x2)))]) (H1 := [⟨10, [(TGraph.lit a0)], 0, none⟩, ⟨1, [[i6 (a0.Procs.length : Int)]], 0, none⟩, ⟨1, [(rdl a0.Entry x2), (rdl a0.Exit x2)].map (cInt .i64), 0, none⟩]) rfl ?_ ?_
              · refine .m rfl <| .o (faP fa29_5 rfl) <| .o (ldP rfl sz23 ag23 rfl) <| .o (lnR (l := a0.Of) sl23 rfl) <| .c rfl go45 rfl rfl rfl (graph_in.D g51_4) <| .o (notB rfl) <| .m rfl <| ?_
                by_cases c31 : t51_4 = true
                · exact (.g rfl (bnotF c31) (faP fa29_5 rfl) <| .g rfl (bnotF c31) (ldP rfl sz23 ag23 rfl) <| .g rfl (bnotF c31) (mvV rfl) <| .g rfl (bnotF c31) (ixR (l := a0.Of) (lit := (cInt .i64)) sl23 rfl rfl (fun _ => rfl) (g51_10 c31).1 (g51_10 c31).2) <| .g rfl (bnotF c31) (ldC rfl sz3 ag3 rfl) <| .g rfl (bnotF c31) (mvV rfl) <| .g rfl (bnotF c31) (neI rfl rfl) <| .o (pkFV rfl (bnotF c31) rfl) <| .nilL _ ⟨.ptr rfl, .ptr rfl, .free rfl rfl, .free rfl rfl, .free rfl rfl, .own rfl, .free rfl rfl, .free rfl rfl, cB rfl (mOrF (bnotF c31) rfl), trivial⟩)
                · exact (.n rfl (bnotT (nb c31)) <| .n rfl (bnotT (nb c31)) <| .n rfl (bnotT (nb c31)) <| .n rfl (bnotT (nb c31)) <| .n rfl (bnotT (nb c31)) <| .n rfl (bnotT (nb c31)) <| .n rfl (bnotT (nb c31)) <| .o (pkTV rfl (bnotT (nb c31)) rfl) <| .nilL _ ⟨.ptr rfl, .ptr rfl, .free rfl rfl, .free rfl rfl, .free rfl rfl, .own rfl, .free rfl rfl, .free rfl rfl, cB rfl (mOrT (bnotT (nb c31))), trivial⟩)
              by_cases c32 : ((!t51_4) || ((rdl a0.Of (rdl [(rdl a0.Entry x2), (rdl a0.Exit x2)] x4)) != x2)) = true
              · rw [if_pos c32] at h
                refine .condT rfl c32 <| .seq <| .reg0 rfl (.op 0 rfl (asV rfl) <| .nil0) ?_
                have q13 := hr2 _ h
                have q14 := hr1 _ q13
                replace q14 := q14.symm
                subst q14
                refine .kf [(2, bo false)] rfl rfl ?_
                exact .ret rfl
              · rw [if_neg c32] at h
                refine .condF rfl (nb c32) <| .skip <| .inBlock <| .reg0 rfl (.op 0 rfl (addI rfl rfl) <| .op 0 rfl (mvV rfl) <| .nil0) <| .keepL [0, 1, 2] [(1, .ptr 0 1 10 0 0), (3, .ptr 1 1 1 0 0), (4, i6 x2), (53, i6 (a0.Procs.length : Int)), (54, i6 x2), (67, .own 2 ([(rdl a0.Entry x2), (rdl a0.Exit x2)].length)), (68, i6 ([(rdl a0.Entry x2), (rdl a0.Exit x2)].length : Int)), (69, i6 (IntKind.i64.wrap (x4 + 1)))] [⟨10, [(TGraph.lit a0)], 0, none⟩, ⟨1, [[i6 (a0.Procs.length : Int)]], 0, none⟩, ⟨1, [(rdl a0.Entry x2), (rdl a0.Exit x2)].map (cInt .i64), 0, none⟩] (by decide) (by decide) ⟨.ptr rfl, .ptr rfl, .free rfl rfl, .free rfl rfl, .free rfl rfl, .own rfl, .free rfl rfl, .free rfl rfl, trivial⟩ ⟨⟨_, rfl, bcBox (all2_free rfl)⟩, ⟨_, rfl, bcBox (all2_free rfl)⟩, ⟨_, rfl, bcRow (l := [(rdl a0.Entry x2), (rdl a0.Exit x2)]) sl23 (Nat.le_refl _) rfl⟩, trivial⟩ ?_
                exact hn2 _ h
            · rw [if_neg c30] at h
              refine .condF rfl (df c30) <| .exit rfl <| .keepL [0, 1] [(1, .ptr 0 1 10 0 0), (3, .ptr 1 1 1 0 0), (53, i6 (a0.Procs.length : Int)), (54, i6 x2)] [⟨10, [(TGraph.lit a0)], 0, none⟩, ⟨1, [[i6 (a0.Procs.length : Int)]], 0, none⟩] (by decide) (by decide) ⟨.ptr rfl, .ptr rfl, .free rfl rfl, .free rfl rfl, trivial⟩ ⟨⟨_, rfl, bcBox (all2_free rfl)⟩, ⟨_, rfl, bcBox (all2_free rfl)⟩, trivial⟩ ?_
              exact hx2 _ h
        · rw [if_neg c23] at h
          refine .condF rfl (df c23) <| .exit rfl <| .keepL [0, 1] [(1, .ptr 0 1 10 0 0), (3, .ptr 1 1 1 0 0)] [⟨10, [(TGraph.lit a0)], 0, none⟩, ⟨1, [[i6 (a0.Procs.length : Int)]], 0, none⟩] (by decide) (by decide) ⟨.ptr rfl, .ptr rfl, trivial⟩ ⟨⟨_, rfl, bcBox (all2_free rfl)⟩, ⟨_, rfl, bcBox (all2_free rfl)⟩, trivial⟩ ?_
          exact hx1 _ h
def graph_stepRight.j1 (a0 : TGraph) (a1 : TStep) : Unit → Bool → Prop := fun _ r => ∃ t63_5 : Bool, (graph_in.f a1.Site (a0.Sites.length : Int) t63_5) ∧ ((t63_5 = true) → (InR a1.Site a0.Sites.length)) ∧ ((t63_5 = true) → ((rdl a0.Sites a1.Site).From = a1.From) → (InR a1.Site a0.Sites.length)) ∧ if ((!t63_5) || ((!((rdl a0.Sites a1.Site).From == a1.From)) || ((rdl a0.Sites a1.Site).Back != a1.To))) = true then (r = false) else (r = ((0 == 0) && ((0 == 0) && ((0 == 0) && ((a1.X == 0) && ((a1.Y == 0) && ((a1.K == 0) && ((0 == 0) && true))))))))
def graph_stepRight.j2 (a1 : TStep) (t4_5 : Bool) (t4_11 : Bool) : Unit → Bool → Prop := fun _ r => r = (t4_5 && (t4_11 && ((0 == 0) && ((0 == 0) && ((0 == 0) && ((0 == 0) && ((0 == 0) && ((a1.K == 0) && ((a1.Site == 0) && true)))))))))
def graph_stepRight.j3 (a1 : TStep) (t4_5 : Bool) : Int → Bool → Prop := fun x11 r => r = (t4_5 && ((0 == 0) && ((0 == 0) && ((0 == 0) && ((0 == 0) && ((a1.Y == 0) && ((x11 == 0) && ((a1.Site == 0) && true))))))))
def graph_stepRight.j4 (a0 : TGraph) (a1 : TStep) (t4_5 : Bool) (t4_11 : Bool) : Bool → Bool → Prop := fun x12 r => if x12 = true then (graph_stepRight.j3 a1 t4_5 a1.K r) else (if a1.Kind = 3 then (graph_stepRight.j2 a1 t4_5 t4_11 () r) else (if a1.Kind = 8 then (graph_stepRight.j1 a0 a1 () r) else (r = false)))
def graph_stepRight.f (a0 : TGraph) (a1 : TStep) (r : Bool) : Prop :=
  ∃ t2_5 : Bool, (graph_in.f a1.From (a0.Of.length : Int) t2_5) ∧ ∃ t2_13 : Bool, ((t2_5 = true) → graph_in.f a1.To (a0.Of.length : Int) t2_13) ∧ ((t2_5 = true) → (t2_13 = true) → (InR a1.From a0.Of.length)) ∧ ((t2_5 = true) → (t2_13 = true) → (InR a1.To a0.Of.length)) ∧ if ((!t2_5) || ((!t2_13) || ((rdl a0.Of a1.From) != (rdl a0.Of a1.To)))) = true then (r = false) else (∃ t4_5 : Bool, (graph_in.f a1.X (a0.Vars.length : Int) t4_5) ∧ ∃ t4_11 : Bool, (graph_in.f a1.Y (a0.Vars.length : Int) t4_11) ∧ if a1.Kind = 1 then (r = ((0 == 0) && ((0 == 0) && ((0 == 0) && ((a1.X == 0) && ((a1.Y == 0) && ((a1.K == 0) && ((a1.Site == 0) && true)))))))) else (if a1.Kind = 2 then (graph_stepRight.j3 a1 t4_5 0 r) else (if a1.Kind = 4 then (graph_stepRight.j4 a0 a1 t4_5 t4_11 (a1.Kind == 4) r) else (if a1.Kind = 5 then (graph_stepRight.j4 a0 a1 t4_5 t4_11 (a1.Kind == 5) r) else (graph_stepRight.j4 a0 a1 t4_5 t4_11 (a1.Kind == 6) r)))))
abbrev GC_A0 : List (List Nat) := [[], [0], [], [2], [3, 2], [1, 0, 4, 3, 2], [5, 1, 0, 4, 3, 2], [6, 5, 1, 0, 4, 3, 2], [7, 6, 5, 1, 0, 4, 3, 2], [8, 7, 6, 5, 1, 0, 4, 3, 2], [7, 6, 5, 1, 0, 4, 3, 2], [10, 7, 6, 5, 1, 0, 4, 3, 2], [11, 10, 7, 6, 5, 1, 0, 4, 3, 2], [9, 8, 7, 6, 5, 1, 0, 4, 3, 2, 12, 11, 10], [13, 9, 8, 7, 6, 5, 1, 0, 4, 3, 2, 12, 11, 10], [7, 6, 5, 1, 0, 4, 3, 2, 14, 13, 9, 8, 12, 11, 10], [15, 7, 6, 5, 1, 0, 4, 3, 2, 14, 13, 9, 8, 12, 11, 10], [16, 15, 7, 6, 5, 1, 0, 4, 3, 2, 14, 13, 9, 8, 12, 11, 10], [17, 16, 15, 7, 6, 5, 1, 0, 4, 3, 2, 14, 13, 9, 8, 12, 11, 10], [16, 15, 7, 6, 5, 1, 0, 4, 3, 2, 14, 13, 9, 8, 12, 11, 10], [19, 16, 15, 7, 6, 5, 1, 0, 4, 3, 2, 14, 13, 9, 8, 12, 11, 10], [18, 17, 16, 15, 7, 6, 5, 1, 0, 4, 3, 2, 14, 13, 9, 8, 12, 11, 10, 20, 19], [21, 18, 17, 16, 15, 7, 6, 5, 1, 0, 4, 3, 2, 14, 13, 9, 8, 12, 11, 10, 20, 19], [16, 15, 7, 6, 5, 1, 0, 4, 3, 2, 14, 13, 9, 8, 12, 11, 10], [23, 16, 15, 7, 6, 5, 1, 0, 4, 3, 2, 14, 13, 9, 8, 12, 11, 10], [16, 15, 7, 6, 5, 1, 0, 4, 3, 2, 14, 13, 9, 8, 12, 11, 10], [25, 16, 15, 7, 6, 5, 1, 0, 4, 3, 2, 14, 13, 9, 8, 12, 11, 10], [24, 23, 16, 15, 7, 6, 5, 1, 0, 4, 3, 2, 14, 13, 9, 8, 12, 11, 10, 26, 25], [27, 24, 23, 16, 15, 7, 6, 5, 1, 0, 4, 3, 2, 14, 13, 9, 8, 12, 11, 10, 26, 25], [22, 21, 18, 17, 16, 15, 7, 6, 5, 1, 0, 4, 3, 2, 14, 13, 9, 8, 12, 11, 10, 20, 19, 28, 27, 24, 23, 26, 25], [16, 15, 7, 6, 5, 1, 0, 4, 3, 2, 14, 13, 9, 8, 12, 11, 10, 29, 22, 21, 18, 17, 20, 19, 28, 27, 24, 23, 26, 25]]
abbrev GC_A1 : List (List Nat) := [[], [0], [], [2], [3, 2], [1, 0, 4, 3, 2], [5, 1, 0, 4, 3, 2], [6, 5, 1, 0, 4, 3, 2], [7, 6, 5, 1, 0, 4, 3, 2], [8, 7, 6, 5, 1, 0, 4, 3, 2], [7, 6, 5, 1, 0, 4, 3, 2], [10, 7, 6, 5, 1, 0, 4, 3, 2], [9, 8, 7, 6, 5, 1, 0, 4, 3, 2, 11, 10], [12, 9, 8, 7, 6, 5, 1, 0, 4, 3, 2, 11, 10], [13, 12, 9, 8, 7, 6, 5, 1, 0, 4, 3, 2, 11, 10], [7, 6, 5, 1, 0, 4, 3, 2], [15, 7, 6, 5, 1, 0, 4, 3, 2], [14, 13, 12, 9, 8, 7, 6, 5, 1, 0, 4, 3, 2, 11, 10, 16, 15], [7, 6, 5, 1, 0, 4, 3, 2, 17, 14, 13, 12, 9, 8, 11, 10, 16, 15], [18, 7, 6, 5, 1, 0, 4, 3, 2, 17, 14, 13, 12, 9, 8, 11, 10, 16, 15], [19, 18, 7, 6, 5, 1, 0, 4, 3, 2, 17, 14, 13, 12, 9, 8, 11, 10, 16, 15], [20, 19, 18, 7, 6, 5, 1, 0, 4, 3, 2, 17, 14, 13, 12, 9, 8, 11, 10, 16, 15], [19, 18, 7, 6, 5, 1, 0, 4, 3, 2, 17, 14, 13, 12, 9, 8, 11, 10, 16, 15], [22, 19, 18, 7, 6, 5, 1, 0, 4, 3, 2, 17, 14, 13, 12, 9, 8, 11, 10, 16, 15], [21, 20, 19, 18, 7, 6, 5, 1, 0, 4, 3, 2, 17, 14, 13, 12, 9, 8, 11, 10, 16, 15, 23, 22], [24, 21, 20, 19, 18, 7, 6, 5, 1, 0, 4, 3, 2, 17, 14, 13, 12, 9, 8, 11, 10, 16, 15, 23, 22], [25, 24, 21, 20, 19, 18, 7, 6, 5, 1, 0, 4, 3, 2, 17, 14, 13, 12, 9, 8, 11, 10, 16, 15, 23, 22], [19, 18, 7, 6, 5, 1, 0, 4, 3, 2, 17, 14, 13, 12, 9, 8, 11, 10, 16, 15], [27, 19, 18, 7, 6, 5, 1, 0, 4, 3, 2, 17, 14, 13, 12, 9, 8, 11, 10, 16, 15], [26, 25, 24, 21, 20, 19, 18, 7, 6, 5, 1, 0, 4, 3, 2, 17, 14, 13, 12, 9, 8, 11, 10, 16, 15, 23, 22, 28, 27], [19, 18, 7, 6, 5, 1, 0, 4, 3, 2, 17, 14, 13, 12, 9, 8, 11, 10, 16, 15, 29, 26, 25, 24, 21, 20, 23, 22, 28, 27]]
theorem graph_stepRight.D {a0 a1 r} (h : graph_stepRight.f a0 a1 r) : D Tryz.prog X (.callH 42 [.agg (TGraph.lit a0), .agg (TStep.lit a1)] [] (.val (.bool r)) []) := by
  unfold graph_stepRight.f at h
  refine .enter 123 0 fn42 rfl rfl rfl <| .seq <| .room 0 <| .room 0 <| .reg0 rfl (.op 0 rfl (bxP (s := 10) (cs := (TGraph.lit a0)) rfl ⟨rfl, by decide, rfl⟩ rfl) <| .op 1 rfl (bxP (s := 7) (cs := (TStep.lit a1)) rfl ⟨rfl, by decide, rfl⟩ rfl) <| .op 0 rfl (asV rfl) <| .nil0) <| .seq <| .seq ?_
  obtain ⟨t2_5, g2_5, h⟩ := h
  obtain ⟨t2_13, g2_13, h⟩ := h
  obtain ⟨g2_21, h⟩ := h
  obtain ⟨g2_27, h⟩ := h
  refine .reg1 (e1 := listEnv [(2, .ptr 0 1 10 0 0), (3, .ptr 1 1 7 0 0), (38, bo ((!t2_5) || ((!t2_13) || ((rdl a0.Of a1.From) != (rdl a0.Of a1.To)))))]) (H1 := [⟨10, [(TGraph.lit a0)], 0, none⟩, ⟨7, [(TStep.lit a1)], 0, none⟩]) rfl ?_ ?_
  · by_cases c1 : t2_5 = true
    · by_cases c2 : t2_13 = true
      · exact .drawM [(30, 38, bo ((rdl a0.Of a1.From) != (rdl a0.Of a1.To))), (29, 37, bo ((rdl a0.Of a1.From) != (rdl a0.Of a1.To))), (28, 36, i6 (rdl a0.Of a1.To)), (27, 35, .cptr ((cInt .i64) (rdl a0.Of a1.To)) 0), (26, 34, i6 a1.To), (25, 33, .ptr 1 1 7 0 1), (24, 32, .rows (a0.Of.map (cInt .i64))), (23, 31, .ptr 0 1 10 0 5), (22, 30, i6 (rdl a0.Of a1.From)), (21, 29, .cptr ((cInt .i64) (rdl a0.Of a1.From)) 0), (20, 28, i6 a1.From), (19, 27, .ptr 1 1 7 0 0), (18, 26, .rows (a0.Of.map (cInt .i64))), (17, 25, .ptr 0 1 10 0 5), (16, 24, bo (!t2_13)), (15, 23, bo (!t2_13)), (14, 22, bo (!t2_13)), (13, 21, bo t2_13), (12, 20, i6 (a0.Of.length : Int)), (11, 19, .rows (a0.Of.map (cInt .i64))), (10, 18, .ptr 0 1 10 0 5), (9, 17, i6 a1.To), (8, 16, .ptr 1 1 7 0 1), (7, 15, bo (!t2_5)), (6, 14, bo (!t2_5)), (5, 13, bo t2_5), (4, 12, i6 (a0.Of.length : Int)), (3, 11, .rows (a0.Of.map (cInt .i64))), (2, 10, .ptr 0 1 10 0 5), (1, 9, i6 a1.From), (0, 8, .ptr 1 1 7 0 0)] [] GC_A0 (by rfl) (by rfl) (by rfl) (by exact ⟨oP (fun _ => faP fa65_0 rfl) rfl, oP (fun _ => ldP rfl sz3 ag3 rfl) rfl, oP (fun _ => faP fa29_5 rfl) rfl, oP (fun _ => ldP rfl sz23 ag23 rfl) rfl, oP (fun _ => lnR (l := a0.Of) sl23 rfl) rfl, fun S hS hD hn => .oneI hS hD hn rfl rfl (callee_of rfl go45 rfl) (.pure rfl rfl (graph_in.D g2_5)) rfl rfl rfl, oP (fun _ => notB rfl) rfl, oP (fun _ => mvV rfl) rfl, oG rfl (fun _ => rfl) (bnotF c1) (fun _ => faP fa65_1 rfl) rfl, oG rfl (fun _ => rfl) (bnotF c1) (fun _ => ldP rfl sz3 ag3 rfl) rfl, oG rfl (fun _ => rfl) (bnotF c1) (fun _ => faP fa29_5 rfl) rfl, oG rfl (fun _ => rfl) (bnotF c1) (fun _ => ldP rfl sz23 ag23 rfl) rfl, oG rfl (fun _ => rfl) (bnotF c1) (fun _ => lnR (l := a0.Of) sl23 rfl) rfl, fun S hS hD hn => .oneI hS hD hn (gT rfl rfl rfl (bnotF c1)) rfl (callee_of rfl go45 rfl) (.pure rfl rfl (graph_in.D (g2_13 c1))) rfl rfl rfl, oG rfl (fun _ => rfl) (bnotF c1) (fun _ => notB rfl) rfl, oP (fun _ => pkFV rfl (bnotF c1) rfl) rfl, oP (fun _ => mvV rfl) rfl, oG rfl (fun _ => rfl) (bnotF c2) (fun _ => faP fa29_5 rfl) rfl, oG rfl (fun _ => rfl) (bnotF c2) (fun _ => ldP rfl sz23 ag23 rfl) rfl, oG rfl (fun _ => rfl) (bnotF c2) (fun _ => faP fa65_0 rfl) rfl, oG rfl (fun _ => rfl) (bnotF c2) (fun _ => ldP rfl sz3 ag3 rfl) rfl, oG rfl (fun _ => rfl) (bnotF c2) (fun _ => ixR (l := a0.Of) (lit := (cInt .i64)) sl23 rfl rfl (fun _ => rfl) (g2_21 c1 c2).1 (g2_21 c1 c2).2) rfl, oG rfl (fun _ => rfl) (bnotF c2) (fun _ => ldC rfl sz3 ag3 rfl) rfl, oG rfl (fun _ => rfl) (bnotF c2) (fun _ => faP fa29_5 rfl) rfl, oG rfl (fun _ => rfl) (bnotF c2) (fun _ => ldP rfl sz23 ag23 rfl) rfl, oG rfl (fun _ => rfl) (bnotF c2) (fun _ => faP fa65_1 rfl) rfl, oG rfl (fun _ => rfl) (bnotF c2) (fun _ => ldP rfl sz3 ag3 rfl) rfl, oG rfl (fun _ => rfl) (bnotF c2) (fun _ => ixR (l := a0.Of) (lit := (cInt .i64)) sl23 rfl rfl (fun _ => rfl) (g2_27 c1 c2).1 (g2_27 c1 c2).2) rfl, oG rfl (fun _ => rfl) (bnotF c2) (fun _ => ldC rfl sz3 ag3 rfl) rfl, oG rfl (fun _ => rfl) (bnotF c2) (fun _ => neI rfl rfl) rfl, oP (fun _ => pkFV rfl (bnotF c2) rfl) rfl, trivial⟩) _ (by exact ⟨.ptr rfl, .ptr rfl, cB rfl (mOrF (bnotF c1) (mOrF (bnotF c2) rfl)), trivial⟩) (by rfl)
      · exact .drawM [(30, 38, bo true), (29, 37, und), (28, 36, und), (27, 35, und), (26, 34, und), (25, 33, und), (24, 32, und), (23, 31, und), (22, 30, und), (21, 29, und), (20, 28, und), (19, 27, und), (18, 26, und), (17, 25, und), (16, 24, bo (!t2_13)), (15, 23, bo (!t2_13)), (14, 22, bo (!t2_13)), (13, 21, bo t2_13), (12, 20, i6 (a0.Of.length : Int)), (11, 19, .rows (a0.Of.map (cInt .i64))), (10, 18, .ptr 0 1 10 0 5), (9, 17, i6 a1.To), (8, 16, .ptr 1 1 7 0 1), (7, 15, bo (!t2_5)), (6, 14, bo (!t2_5)), (5, 13, bo t2_5), (4, 12, i6 (a0.Of.length : Int)), (3, 11, .rows (a0.Of.map (cInt .i64))), (2, 10, .ptr 0 1 10 0 5), (1, 9, i6 a1.From), (0, 8, .ptr 1 1 7 0 0)] [] GC_A0 (by rfl) (by rfl) (by rfl) (by exact ⟨oP (fun _ => faP fa65_0 rfl) rfl, oP (fun _ => ldP rfl sz3 ag3 rfl) rfl, oP (fun _ => faP fa29_5 rfl) rfl, oP (fun _ => ldP rfl sz23 ag23 rfl) rfl, oP (fun _ => lnR (l := a0.Of) sl23 rfl) rfl, fun S hS hD hn => .oneI hS hD hn rfl rfl (callee_of rfl go45 rfl) (.pure rfl rfl (graph_in.D g2_5)) rfl rfl rfl, oP (fun _ => notB rfl) rfl, oP (fun _ => mvV rfl) rfl, oG rfl (fun _ => rfl) (bnotF c1) (fun _ => faP fa65_1 rfl) rfl, oG rfl (fun _ => rfl) (bnotF c1) (fun _ => ldP rfl sz3 ag3 rfl) rfl, oG rfl (fun _ => rfl) (bnotF c1) (fun _ => faP fa29_5 rfl) rfl, oG rfl (fun _ => rfl) (bnotF c1) (fun _ => ldP rfl sz23 ag23 rfl) rfl, oG rfl (fun _ => rfl) (bnotF c1) (fun _ => lnR (l := a0.Of) sl23 rfl) rfl, fun S hS hD hn => .oneI hS hD hn (gT rfl rfl rfl (bnotF c1)) rfl (callee_of rfl go45 rfl) (.pure rfl rfl (graph_in.D (g2_13 c1))) rfl rfl rfl, oG rfl (fun _ => rfl) (bnotF c1) (fun _ => notB rfl) rfl, oP (fun _ => pkFV rfl (bnotF c1) rfl) rfl, oP (fun _ => mvV rfl) rfl, oN rfl (fun _ => rfl) (bnotT (nb c2)) rfl, oN rfl (fun _ => rfl) (bnotT (nb c2)) rfl, oN rfl (fun _ => rfl) (bnotT (nb c2)) rfl, oN rfl (fun _ => rfl) (bnotT (nb c2)) rfl, oN rfl (fun _ => rfl) (bnotT (nb c2)) rfl, oN rfl (fun _ => rfl) (bnotT (nb c2)) rfl, oN rfl (fun _ => rfl) (bnotT (nb c2)) rfl, oN rfl (fun _ => rfl) (bnotT (nb c2)) rfl, oN rfl (fun _ => rfl) (bnotT (nb c2)) rfl, oN rfl (fun _ => rfl) (bnotT (nb c2)) rfl, oN rfl (fun _ => rfl) (bnotT (nb c2)) rfl, oN rfl (fun _ => rfl) (bnotT (nb c2)) rfl, oN rfl (fun _ => rfl) (bnotT (nb c2)) rfl, oP (fun _ => pkTV rfl (bnotT (nb c2)) rfl) rfl, trivial⟩) _ (by exact ⟨.ptr rfl, .ptr rfl, cB rfl (mOrF (bnotF c1) (mOrT (bnotT (nb c2)))), trivial⟩) (by rfl)
    · exact .drawM [(30, 38, bo true), (29, 37, und), (28, 36, und), (27, 35, und), (26, 34, und), (25, 33, und), (24, 32, und), (23, 31, und), (22, 30, und), (21, 29, und), (20, 28, und), (19, 27, und), (18, 26, und), (17, 25, und), (16, 24, bo true), (15, 23, bo true), (14, 22, und), (13, 21, und), (12, 20, und), (11, 19, und), (10, 18, und), (9, 17, und), (8, 16, und), (7, 15, bo (!t2_5)), (6, 14, bo (!t2_5)), (5, 13, bo t2_5), (4, 12, i6 (a0.Of.length : Int)), (3, 11, .rows (a0.Of.map (cInt .i64))), (2, 10, .ptr 0 1 10 0 5), (1, 9, i6 a1.From), (0, 8, .ptr 1 1 7 0 0)] [] GC_A0 (by rfl) (by rfl) (by rfl) (by exact ⟨oP (fun _ => faP fa65_0 rfl) rfl, oP (fun _ => ldP rfl sz3 ag3 rfl) rfl, oP (fun _ => faP fa29_5 rfl) rfl, oP (fun _ => ldP rfl sz23 ag23 rfl) rfl, oP (fun _ => lnR (l := a0.Of) sl23 rfl) rfl, fun S hS hD hn => .oneI hS hD hn rfl rfl (callee_of rfl go45 rfl) (.pure rfl rfl (graph_in.D g2_5)) rfl rfl rfl, oP (fun _ => notB rfl) rfl, oP (fun _ => mvV rfl) rfl, oN rfl (fun _ => rfl) (bnotT (nb c1)) rfl, oN rfl (fun _ => rfl) (bnotT (nb c1)) rfl, oN rfl (fun _ => rfl) (bnotT (nb c1)) rfl, oN rfl (fun _ => rfl) (bnotT (nb c1)) rfl, oN rfl (fun _ => rfl) (bnotT (nb c1)) rfl, oN rfl (fun _ => rfl) (bnotT (nb c1)) rfl, oN rfl (fun _ => rfl) (bnotT (nb c1)) rfl, oP (fun _ => pkTV rfl (bnotT (nb c1)) rfl) rfl, oP (fun _ => mvV rfl) rfl, oN rfl (fun _ => rfl) rfl rfl, oN rfl (fun _ => rfl) rfl rfl, oN rfl (fun _ => rfl) rfl rfl, oN rfl (fun _ => rfl) rfl rfl, oN rfl (fun _ => rfl) rfl rfl, oN rfl (fun _ => rfl) rfl rfl, oN rfl (fun _ => rfl) rfl rfl, oN rfl (fun _ => rfl) rfl rfl, oN rfl (fun _ => rfl) rfl rfl, oN rfl (fun _ => rfl) rfl rfl, oN rfl (fun _ => rfl) rfl rfl, oN rfl (fun _ => rfl) rfl rfl, oN rfl (fun _ => rfl) rfl rfl, oP (fun _ => pkTV rfl rfl rfl) rfl, trivial⟩) _ (by exact ⟨.ptr rfl, .ptr rfl, cB rfl (mOrT (bnotT (nb c1))), trivial⟩) (by rfl)
  by_cases c3 : ((!t2_5) || ((!t2_13) || ((rdl a0.Of a1.From) != (rdl a0.Of a1.To)))) = true
  · rw [if_pos c3] at h
    refine .condT rfl c3 <| .seq <| .reg0 rfl (.op 0 rfl (asV rfl) <| .nil0) ?_
    replace h := h.symm
    subst h
    refine .kf [(4, bo false)] rfl rfl ?_
    exact .ret rfl
  · rw [if_neg c3] at h
    refine .condF rfl (nb c3) <| .skip <| .seq ?_
    obtain ⟨t4_5, g4_5, h⟩ := h
    obtain ⟨t4_11, g4_11, h⟩ := h
    refine .reg1 (e1 := listEnv [(2, .ptr 0 1 10 0 0), (3, .ptr 1 1 7 0 0), (5, bo t4_5), (6, bo t4_11)]) (H1 := [⟨10, [(TGraph.lit a0)], 0, none⟩, ⟨7, [(TStep.lit a1)], 0, none⟩]) rfl ?_ ?_
    · exact .drawM [(13, 6, bo t4_11), (12, 5, bo t4_5), (11, 50, bo t4_11), (10, 49, i6 (a0.Vars.length : Int)), (9, 48, .rows (a0.Vars.map cStr)), (8, 47, .ptr 0 1 10 0 0), (7, 46, i6 a1.Y), (6, 45, .ptr 1 1 7 0 4), (5, 44, bo t4_5), (4, 43, i6 (a0.Vars.length : Int)), (3, 42, .rows (a0.Vars.map cStr)), (2, 41, .ptr 0 1 10 0 0), (1, 40, i6 a1.X), (0, 39, .ptr 1 1 7 0 3)] [] [[], [0], [], [2], [3, 2], [1, 0, 4, 3, 2], [], [6], [], [8], [9, 8], [7, 6, 10, 9, 8, 5, 1, 0, 4, 3, 2], [5, 1, 0, 4, 3, 2, 11, 7, 6, 10, 9, 8], [11, 7, 6, 10, 9, 8, 5, 1, 0, 4, 3, 2, 12]] (by rfl) (by rfl) (by rfl) (by exact ⟨oP (fun _ => faP fa65_3 rfl) rfl, oP (fun _ => ldP rfl sz3 ag3 rfl) rfl, oP (fun _ => faP fa29_0 rfl) rfl, oP (fun _ => ldP rfl sz22 ag22 rfl) rfl, oP (fun _ => lnR (l := a0.Vars) sl22 rfl) rfl, fun S hS hD hn => .oneI hS hD hn rfl rfl (callee_of rfl go45 rfl) (.pure rfl rfl (graph_in.D g4_5)) rfl rfl rfl, oP (fun _ => faP fa65_4 rfl) rfl, oP (fun _ => ldP rfl sz3 ag3 rfl) rfl, oP (fun _ => faP fa29_0 rfl) rfl, oP (fun _ => ldP rfl sz22 ag22 rfl) rfl, oP (fun _ => lnR (l := a0.Vars) sl22 rfl) rfl, fun S hS hD hn => .oneI hS hD hn rfl rfl (callee_of rfl go45 rfl) (.pure rfl rfl (graph_in.D g4_11)) rfl rfl rfl, oP (fun _ => asV rfl) rfl, oP (fun _ => asV rfl) rfl, trivial⟩) _ (by exact ⟨.ptr rfl, .ptr rfl, .free rfl rfl, .free rfl rfl, trivial⟩) (by rfl)
    refine .seq <| .room 0 <| .reg0 rfl (.op 0 rfl (ldG rfl sz65 ag65 rfl) <| .op 2 rfl (alP (s := 7) ze65 ⟨rfl, by decide, rfl⟩ rfl) <| .op 0 rfl (stB (cs0 := GC_c0) (cs := (TStep.lit a1)) (cs1 := (TStep.lit a1)) rfl rfl sz65 rfl ⟨Nat.le_of_ble_eq_true rfl, rfl⟩ rfl) <| .nil0) <| .seq <| .reg0 rfl (.op 0 rfl (faP fa65_0 rfl) <| .op 0 rfl (stB (cs0 := (TStep.lit a1)) (cs := [i6 0]) (cs1 := [i6 0, i6 a1.To, i6 a1.Kind, i6 a1.X, i6 a1.Y, i6 a1.K, i6 a1.Site]) rfl rfl sz3 rfl ⟨Nat.le_of_ble_eq_true rfl, rfl⟩ rfl) <| .op 0 rfl (faP fa65_1 rfl) <| .op 0 rfl (stB (cs0 := [i6 0, i6 a1.To, i6 a1.Kind, i6 a1.X, i6 a1.Y, i6 a1.K, i6 a1.Site]) (cs := [i6 0]) (cs1 := [i6 0, i6 0, i6 a1.Kind, i6 a1.X, i6 a1.Y, i6 a1.K, i6 a1.Site]) rfl rfl sz3 rfl ⟨Nat.le_of_ble_eq_true rfl, rfl⟩ rfl) <| .op 0 rfl (faP fa65_2 rfl) <| .op 0 rfl (stB (cs0 := [i6 0, i6 0, i6 a1.Kind, i6 a1.X, i6 a1.Y, i6 a1.K, i6 a1.Site]) (cs := [i6 0]) (cs1 := [i6 0, i6 0, i6 0, i6 a1.X, i6 a1.Y, i6 a1.K, i6 a1.Site]) rfl rfl sz63 rfl ⟨Nat.le_of_ble_eq_true rfl, rfl⟩ rfl) <| .nil0) ?_
    refine .seq <| .seq <| .reg0 rfl (.op 0 rfl (faP fa65_2 rfl) <| .op 0 rfl (ldP rfl sz63 ag63 rfl) <| .nil0) <| .block <| .seq <| .block <| .seq ?_
    refine .consJ (fun s_ => graph_stepRight.j1 a0 a1 s_ r) (fun _ => listEnv [(2, .ptr 0 1 10 0 0), (3, .ptr 1 1 7 0 0), (7, .ptr 2 1 7 0 0)]) (fun _ => [⟨10, [(TGraph.lit a0)], 0, none⟩, ⟨7, [(TStep.lit a1)], 0, none⟩, ⟨7, [[i6 0, i6 0, i6 0, i6 a1.X, i6 a1.Y, i6 a1.K, i6 a1.Site]], 0, none⟩]) ?_ fun hJ1 => ?_
    · rintro ⟨⟩ h
      unfold graph_stepRight.j1 at h
      try dsimp only at h
      refine .seq <| .seq <| .reg0 rfl (.op 0 rfl (faP fa65_6 rfl) <| .op 0 rfl (stB (cs0 := [i6 0, i6 0, i6 0, i6 a1.X, i6 a1.Y, i6 a1.K, i6 a1.Site]) (cs := [i6 0]) (cs1 := [i6 0, i6 0, i6 0, i6 a1.X, i6 a1.Y, i6 a1.K, i6 0]) rfl rfl sz3 rfl ⟨Nat.le_of_ble_eq_true rfl, rfl⟩ rfl) <| .nil0) <| .seq ?_
      obtain ⟨t63_5, g63_5, h⟩ := h
      obtain ⟨g63_12, h⟩ := h
      obtain ⟨g63_24, h⟩ := h
      refine .reg1 (e1 := listEnv [(7, .ptr 2 1 7 0 0), (119, bo ((!t63_5) || ((!((rdl a0.Sites a1.Site).From == a1.From)) || ((rdl a0.Sites a1.Site).Back != a1.To))))]) (H1 := [⟨10, [(TGraph.lit a0)], 0, none⟩, ⟨7, [(TStep.lit a1)], 0, none⟩, ⟨7, [[i6 0, i6 0, i6 0, i6 a1.X, i6 a1.Y, i6 a1.K, i6 0]], 0, none⟩]) rfl ?_ ?_
      · by_cases c44 : t63_5 = true
        · by_cases c45 : (rdl a0.Sites a1.Site).From = a1.From
          · exact .drawM [(30, 119, bo ((rdl a0.Sites a1.Site).Back != a1.To)), (29, 118, bo ((rdl a0.Sites a1.Site).Back != a1.To)), (28, 117, i6 a1.To), (27, 116, .ptr 1 1 7 0 1), (26, 115, i6 ((rdl a0.Sites a1.Site).Back)), (25, 114, .cptr (TSite.lit (rdl a0.Sites a1.Site)) 3), (24, 113, .cptr (TSite.lit (rdl a0.Sites a1.Site)) 0), (23, 112, i6 a1.Site), (22, 111, .ptr 1 1 7 0 6), (21, 110, .rows (a0.Sites.map TSite.cells)), (20, 109, .ptr 0 1 10 0 7), (19, 108, bo ((rdl a0.Sites a1.Site).From != a1.From)), (18, 107, bo ((rdl a0.Sites a1.Site).From != a1.From)), (17, 106, bo ((rdl a0.Sites a1.Site).From != a1.From)), (16, 105, i6 a1.From), (15, 104, .ptr 1 1 7 0 0), (14, 103, i6 ((rdl a0.Sites a1.Site).From)), (13, 102, .cptr (TSite.lit (rdl a0.Sites a1.Site)) 2), (12, 101, .cptr (TSite.lit (rdl a0.Sites a1.Site)) 0), (11, 100, i6 a1.Site), (10, 99, .ptr 1 1 7 0 6), (9, 98, .rows (a0.Sites.map TSite.cells)), (8, 97, .ptr 0 1 10 0 7), (7, 96, bo (!t63_5)), (6, 95, bo (!t63_5)), (5, 94, bo t63_5), (4, 93, i6 (a0.Sites.length : Int)), (3, 92, .rows (a0.Sites.map TSite.cells)), (2, 91, .ptr 0 1 10 0 7), (1, 90, i6 a1.Site), (0, 89, .ptr 1 1 7 0 6)] [] GC_A1 (by rfl) (by rfl) (by rfl) (by exact ⟨oP (fun _ => faP fa65_6 rfl) rfl, oP (fun _ => ldP rfl sz3 ag3 rfl) rfl, oP (fun _ => faP fa29_7 rfl) rfl, oP (fun _ => ldP rfl sz25 ag25 rfl) rfl, oP (fun _ => lnR (l := a0.Sites) sl25 rfl) rfl, fun S hS hD hn => .oneI hS hD hn rfl rfl (callee_of rfl go45 rfl) (.pure rfl rfl (graph_in.D g63_5)) rfl rfl rfl, oP (fun _ => notB rfl) rfl, oP (fun _ => mvV rfl) rfl, oG rfl (fun _ => rfl) (bnotF c44) (fun _ => faP fa29_7 rfl) rfl, oG rfl (fun _ => rfl) (bnotF c44) (fun _ => ldP rfl sz25 ag25 rfl) rfl, oG rfl (fun _ => rfl) (bnotF c44) (fun _ => faP fa65_6 rfl) rfl, oG rfl (fun _ => rfl) (bnotF c44) (fun _ => ldP rfl sz3 ag3 rfl) rfl, oG rfl (fun _ => rfl) (bnotF c44) (fun _ => ixR (l := a0.Sites) (lit := TSite.lit) sl25 rfl rfl (fun _ => rfl) (g63_12 c44).1 (g63_12 c44).2) rfl, oG rfl (fun _ => rfl) (bnotF c44) (fun _ => faC fa70_2 rfl) rfl, oG rfl (fun _ => rfl) (bnotF c44) (fun _ => ldC rfl sz3 ag3 rfl) rfl, oG rfl (fun _ => rfl) (bnotF c44) (fun _ => faP fa65_0 rfl) rfl, oG rfl (fun _ => rfl) (bnotF c44) (fun _ => ldP rfl sz3 ag3 rfl) rfl, oG rfl (fun _ => rfl) (bnotF c44) (fun _ => neI rfl rfl) rfl, oP (fun _ => pkFV rfl (bnotF c44) rfl) rfl, oP (fun _ => mvV rfl) rfl, oG rfl (fun _ => rfl) (nf c45) (fun _ => faP fa29_7 rfl) rfl, oG rfl (fun _ => rfl) (nf c45) (fun _ => ldP rfl sz25 ag25 rfl) rfl, oG rfl (fun _ => rfl) (nf c45) (fun _ => faP fa65_6 rfl) rfl, oG rfl (fun _ => rfl) (nf c45) (fun _ => ldP rfl sz3 ag3 rfl) rfl, oG rfl (fun _ => rfl) (nf c45) (fun _ => ixR (l := a0.Sites) (lit := TSite.lit) sl25 rfl rfl (fun _ => rfl) (g63_24 c44 c45).1 (g63_24 c44 c45).2) rfl, oG rfl (fun _ => rfl) (nf c45) (fun _ => faC fa70_3 rfl) rfl, oG rfl (fun _ => rfl) (nf c45) (fun _ => ldC rfl sz3 ag3 rfl) rfl, oG rfl (fun _ => rfl) (nf c45) (fun _ => faP fa65_1 rfl) rfl, oG rfl (fun _ => rfl) (nf c45) (fun _ => ldP rfl sz3 ag3 rfl) rfl, oG rfl (fun _ => rfl) (nf c45) (fun _ => neI rfl rfl) rfl, oP (fun _ => pkFV rfl (nf c45) rfl) rfl, trivial⟩) _ (by exact ⟨.ptr rfl, cB rfl (mOrF (bnotF c44) (mOrF (bnotF (bt c45)) rfl)), trivial⟩) (by rfl)
          · exact .drawM [(30, 119, bo true), (29, 118, und), (28, 117, und), (27, 116, und), (26, 115, und), (25, 114, und), (24, 113, und), (23, 112, und), (22, 111, und), (21, 110, und), (20, 109, und), (19, 108, bo ((rdl a0.Sites a1.Site).From != a1.From)), (18, 107, bo ((rdl a0.Sites a1.Site).From != a1.From)), (17, 106, bo ((rdl a0.Sites a1.Site).From != a1.From)), (16, 105, i6 a1.From), (15, 104, .ptr 1 1 7 0 0), (14, 103, i6 ((rdl a0.Sites a1.Site).From)), (13, 102, .cptr (TSite.lit (rdl a0.Sites a1.Site)) 2), (12, 101, .cptr (TSite.lit (rdl a0.Sites a1.Site)) 0), (11, 100, i6 a1.Site), (10, 99, .ptr 1 1 7 0 6), (9, 98, .rows (a0.Sites.map TSite.cells)), (8, 97, .ptr 0 1 10 0 7), (7, 96, bo (!t63_5)), (6, 95, bo (!t63_5)), (5, 94, bo t63_5), (4, 93, i6 (a0.Sites.length : Int)), (3, 92, .rows (a0.Sites.map TSite.cells)), (2, 91, .ptr 0 1 10 0 7), (1, 90, i6 a1.Site), (0, 89, .ptr 1 1 7 0 6)] [] GC_A1 (by rfl) (by rfl) (by rfl) (by exact ⟨oP (fun _ => faP fa65_6 rfl) rfl, oP (fun _ => ldP rfl sz3 ag3 rfl) rfl, oP (fun _ => faP fa29_7 rfl) rfl, oP (fun _ => ldP rfl sz25 ag25 rfl) rfl, oP (fun _ => lnR (l := a0.Sites) sl25 rfl) rfl, fun S hS hD hn => .oneI hS hD hn rfl rfl (callee_of rfl go45 rfl) (.pure rfl rfl (graph_in.D g63_5)) rfl rfl rfl, oP (fun _ => notB rfl) rfl, oP (fun _ => mvV rfl) rfl, oG rfl (fun _ => rfl) (bnotF c44) (fun _ => faP fa29_7 rfl) rfl, oG rfl (fun _ => rfl) (bnotF c44) (fun _ => ldP rfl sz25 ag25 rfl) rfl, oG rfl (fun _ => rfl) (bnotF c44) (fun _ => faP fa65_6 rfl) rfl, oG rfl (fun _ => rfl) (bnotF c44) (fun _ => ldP rfl sz3 ag3 rfl) rfl, oG rfl (fun _ => rfl) (bnotF c44) (fun _ => ixR (l := a0.Sites) (lit := TSite.lit) sl25 rfl rfl (fun _ => rfl) (g63_12 c44).1 (g63_12 c44).2) rfl, oG rfl (fun _ => rfl) (bnotF c44) (fun _ => faC fa70_2 rfl) rfl, oG rfl (fun _ => rfl) (bnotF c44) (fun _ => ldC rfl sz3 ag3 rfl) rfl, oG rfl (fun _ => rfl) (bnotF c44) (fun _ => faP fa65_0 rfl) rfl, oG rfl (fun _ => rfl) (bnotF c44) (fun _ => ldP rfl sz3 ag3 rfl) rfl, oG rfl (fun _ => rfl) (bnotF c44) (fun _ => neI rfl rfl) rfl, oP (fun _ => pkFV rfl (bnotF c44) rfl) rfl, oP (fun _ => mvV rfl) rfl, oN rfl (fun _ => rfl) (nt c45) rfl, oN rfl (fun _ => rfl) (nt c45) rfl, oN rfl (fun _ => rfl) (nt c45) rfl, oN rfl (fun _ => rfl) (nt c45) rfl, oN rfl (fun _ => rfl) (nt c45) rfl, oN rfl (fun _ => rfl) (nt c45) rfl, oN rfl (fun _ => rfl) (nt c45) rfl, oN rfl (fun _ => rfl) (nt c45) rfl, oN rfl (fun _ => rfl) (nt c45) rfl, oN rfl (fun _ => rfl) (nt c45) rfl, oP (fun _ => pkTV rfl (nt c45) rfl) rfl, trivial⟩) _ (by exact ⟨.ptr rfl, cB rfl (mOrF (bnotF c44) (mOrT (bnotT (bn c45)))), trivial⟩) (by rfl)
        · exact .drawM [(30, 119, bo true), (29, 118, und), (28, 117, und), (27, 116, und), (26, 115, und), (25, 114, und), (24, 113, und), (23, 112, und), (22, 111, und), (21, 110, und), (20, 109, und), (19, 108, bo true), (18, 107, bo true), (17, 106, und), (16, 105, und), (15, 104, und), (14, 103, und), (13, 102, und), (12, 101, und), (11, 100, und), (10, 99, und), (9, 98, und), (8, 97, und), (7, 96, bo (!t63_5)), (6, 95, bo (!t63_5)), (5, 94, bo t63_5), (4, 93, i6 (a0.Sites.length : Int)), (3, 92, .rows (a0.Sites.map TSite.cells)), (2, 91, .ptr 0 1 10 0 7), (1, 90, i6 a1.Site), (0, 89, .ptr 1 1 7 0 6)] [] GC_A1 (by rfl) (by rfl) (by rfl) (by exact ⟨oP (fun _ => faP fa65_6 rfl) rfl, oP (fun _ => ldP rfl sz3 ag3 rfl) rfl, oP (fun _ => faP fa29_7 rfl) rfl, oP (fun _ => ldP rfl sz25 ag25 rfl) rfl, oP (fun _ => lnR (l := a0.Sites) sl25 rfl) rfl, fun S hS hD hn => .oneI hS hD hn rfl rfl (callee_of rfl go45 rfl) (.pure rfl rfl (graph_in.D g63_5)) rfl rfl rfl, oP (fun _ => notB rfl) rfl, oP (fun _ => mvV rfl) rfl, oN rfl (fun _ => rfl) (bnotT (nb c44)) rfl, oN rfl (fun _ => rfl) (bnotT (nb c44)) rfl, oN rfl (fun _ => rfl) (bnotT (nb c44)) rfl, oN rfl (fun _ => rfl) (bnotT (nb c44)) rfl, oN rfl (fun _ => rfl) (bnotT (nb c44)) rfl, oN rfl (fun _ => rfl) (bnotT (nb c44)) rfl, oN rfl (fun _ => rfl) (bnotT (nb c44)) rfl, oN rfl (fun _ => rfl) (bnotT (nb c44)) rfl, oN rfl (fun _ => rfl) (bnotT (nb c44)) rfl, oN rfl (fun _ => rfl) (bnotT (nb c44)) rfl, oP (fun _ => pkTV rfl (bnotT (nb c44)) rfl) rfl, oP (fun _ => mvV rfl) rfl, oN rfl (fun _ => rfl) rfl rfl, oN rfl (fun _ => rfl) rfl rfl, oN rfl (fun _ => rfl) rfl rfl, oN rfl (fun _ => rfl) rfl rfl, oN rfl (fun _ => rfl) rfl rfl, oN rfl (fun _ => rfl) rfl rfl, oN rfl (fun _ => rfl) rfl rfl, oN rfl (fun _ => rfl) rfl rfl, oN rfl (fun _ => rfl) rfl rfl, oN rfl (fun _ => rfl) rfl rfl, oP (fun _ => pkTV rfl rfl rfl) rfl, trivial⟩) _ (by exact ⟨.ptr rfl, cB rfl (mOrT (bnotT (nb c44))), trivial⟩) (by rfl)
      by_cases c46 : ((!t63_5) || ((!((rdl a0.Sites a1.Site).From == a1.From)) || ((rdl a0.Sites a1.Site).Back != a1.To))) = true
      · rw [if_pos c46] at h
        refine .condT rfl c46 <| .seq <| .reg0 rfl (.op 0 rfl (asV rfl) <| .nil0) ?_
        replace h := h.symm
        subst h
        refine .kf [(4, bo false)] rfl rfl ?_
        exact .ret rfl
      · rw [if_neg c46] at h
        refine .condF rfl (nb c46) <| .skip <| .exit rfl <| .seq <| .reg0 rfl (.op 0 rfl (ldG rfl sz65 ag65 rfl) <| .op 0 rfl (bldS (cs := GC_c0) ze65 pl65 rfl rfl) <| .op 0 rfl (eqS (xs := [.int .i64 0, .int .i64 0, .int .i64 0, .int .i64 a1.X, .int .i64 a1.Y, .int .i64 a1.K, .int .i64 0]) (ys := [.int .i64 0, .int .i64 0, .int .i64 0, .int .i64 0, .int .i64 0, .int .i64 0, .int .i64 0]) ek65 rfl rfl rfl rfl rfl) <| .op 0 rfl (asV rfl) <| .nil0) ?_
        replace h := h.symm
        subst h
        refine .kf [(4, bo ((0 == 0) && ((0 == 0) && ((0 == 0) && ((a1.X == 0) && ((a1.Y == 0) && ((a1.K == 0) && ((0 == 0) && true))))))))] rfl rfl ?_
        exact .ret rfl
    · refine .block <| .seq ?_
      refine .consJ (fun s_ => graph_stepRight.j2 a1 t4_5 t4_11 s_ r) (fun _ => listEnv [(5, bo t4_5), (6, bo t4_11), (7, .ptr 0 1 7 0 0)]) (fun _ => [⟨7, [[i6 0, i6 0, i6 0, i6 a1.X, i6 a1.Y, i6 a1.K, i6 a1.Site]], 0, none⟩]) ?_ fun hJ2 => ?_
      · rintro ⟨⟩ h
        unfold graph_stepRight.j2 at h
        try dsimp only at h
        refine .seq <| .seq <| .reg0 rfl (.op 0 rfl (faP fa65_3 rfl) <| .op 0 rfl (stB (cs0 := [i6 0, i6 0, i6 0, i6 a1.X, i6 a1.Y, i6 a1.K, i6 a1.Site]) (cs := [i6 0]) (cs1 := [i6 0, i6 0, i6 0, i6 0, i6 a1.Y, i6 a1.K, i6 a1.Site]) rfl rfl sz3 rfl ⟨Nat.le_of_ble_eq_true rfl, rfl⟩ rfl) <| .op 0 rfl (faP fa65_4 rfl) <| .op 0 rfl (stB (cs0 := [i6 0, i6 0, i6 0, i6 0, i6 a1.Y, i6 a1.K, i6 a1.Site]) (cs := [i6 0]) (cs1 := [i6 0, i6 0, i6 0, i6 0, i6 0, i6 a1.K, i6 a1.Site]) rfl rfl sz3 rfl ⟨Nat.le_of_ble_eq_true rfl, rfl⟩ rfl) <| .nil0) ?_
        refine .seq ?_
        refine .reg0 (e1 := listEnv [(4, bo (t4_5 && (t4_11 && ((0 == 0) && ((0 == 0) && ((0 == 0) && ((0 == 0) && ((0 == 0) && ((a1.K == 0) && ((a1.Site == 0) && true))))))))))]) (H1 := [⟨7, [[i6 0, i6 0, i6 0, i6 0, i6 0, i6 a1.K, i6 a1.Site]], 0, none⟩]) rfl ?_ ?_
        · refine .m rfl <| .m rfl <| ?_
          by_cases c66 : t4_5 = true
          · refine .g rfl c66 (mvV rfl) <| .o (pkTV rfl c66 rfl) <| .m rfl <| ?_
            by_cases c67 : t4_11 = true
            · exact (.g rfl c67 (ldG rfl sz65 ag65 rfl) <| .g rfl c67 (bldS (cs := GC_c0) ze65 pl65 rfl rfl) <| .g rfl c67 (eqS (xs := [.int .i64 0, .int .i64 0, .int .i64 0, .int .i64 0, .int .i64 0, .int .i64 a1.K, .int .i64 a1.Site]) (ys := [.int .i64 0, .int .i64 0, .int .i64 0, .int .i64 0, .int .i64 0, .int .i64 0, .int .i64 0]) ek65 rfl rfl rfl rfl rfl) <| .o (pkTV rfl c67 rfl) <| .a rfl <| .nilL _ ⟨cB rfl (mAndT c66 (mAndT c67 rfl)), trivial⟩)
            · exact (.n rfl (nb c67) <| .n rfl (nb c67) <| .n rfl (nb c67) <| .o (pkFV rfl (nb c67) rfl) <| .a rfl <| .nilL _ ⟨cB rfl (mAndT c66 (mAndF (nb c67))), trivial⟩)
          · exact (.n rfl (nb c66) <| .o (pkFV rfl (nb c66) rfl) <| .m rfl <| .n rfl rfl <| .n rfl rfl <| .n rfl rfl <| .o (pkFV rfl rfl rfl) <| .a rfl <| .nilL _ ⟨cB rfl (mAndF (nb c66)), trivial⟩)
        replace h := h.symm
        subst h
        refine .kf [(4, bo (t4_5 && (t4_11 && ((0 == 0) && ((0 == 0) && ((0 == 0) && ((0 == 0) && ((0 == 0) && ((a1.K == 0) && ((a1.Site == 0) && true))))))))))] rfl rfl ?_
        exact .ret rfl
      · refine .block <| .seq ?_
        refine .consJ (fun s_ => graph_stepRight.j3 a1 t4_5 s_ r) (fun x11 => listEnv [(5, bo t4_5), (7, .ptr 0 1 7 0 0)]) (fun x11 => [⟨7, [[i6 0, i6 0, i6 0, i6 a1.X, i6 a1.Y, i6 x11, i6 a1.Site]], 0, none⟩]) ?_ fun hJ3 => ?_
        · rintro x11 h
          unfold graph_stepRight.j3 at h
          try dsimp only at h
          refine .seq <| .seq <| .reg0 rfl (.op 0 rfl (faP fa65_3 rfl) <| .op 0 rfl (stB (cs0 := [i6 0, i6 0, i6 0, i6 a1.X, i6 a1.Y, i6 x11, i6 a1.Site]) (cs := [i6 0]) (cs1 := [i6 0, i6 0, i6 0, i6 0, i6 a1.Y, i6 x11, i6 a1.Site]) rfl rfl sz3 rfl ⟨Nat.le_of_ble_eq_true rfl, rfl⟩ rfl) <| .nil0) <| .seq ?_
          refine .reg0 (e1 := listEnv [(4, bo (t4_5 && ((0 == 0) && ((0 == 0) && ((0 == 0) && ((0 == 0) && ((a1.Y == 0) && ((x11 == 0) && ((a1.Site == 0) && true)))))))))]) (H1 := [⟨7, [[i6 0, i6 0, i6 0, i6 0, i6 a1.Y, i6 x11, i6 a1.Site]], 0, none⟩]) rfl ?_ ?_
          · refine .m rfl <| .m rfl <| ?_
            by_cases c77 : t4_5 = true
            · exact (.g rfl c77 (ldG rfl sz65 ag65 rfl) <| .g rfl c77 (bldS (cs := GC_c0) ze65 pl65 rfl rfl) <| .g rfl c77 (eqS (xs := [.int .i64 0, .int .i64 0, .int .i64 0, .int .i64 0, .int .i64 a1.Y, .int .i64 x11, .int .i64 a1.Site]) (ys := [.int .i64 0, .int .i64 0, .int .i64 0, .int .i64 0, .int .i64 0, .int .i64 0, .int .i64 0]) ek65 rfl rfl rfl rfl rfl) <| .o (pkTV rfl c77 rfl) <| .a rfl <| .nilL _ ⟨cB rfl (mAndT c77 rfl), trivial⟩)
            · exact (.n rfl (nb c77) <| .n rfl (nb c77) <| .n rfl (nb c77) <| .o (pkFV rfl (nb c77) rfl) <| .a rfl <| .nilL _ ⟨cB rfl (mAndF (nb c77)), trivial⟩)
          replace h := h.symm
          subst h
          refine .kf [(4, bo (t4_5 && ((0 == 0) && ((0 == 0) && ((0 == 0) && ((0 == 0) && ((a1.Y == 0) && ((x11 == 0) && ((a1.Site == 0) && true)))))))))] rfl rfl ?_
          exact .ret rfl
        · refine .block <| .seq <| .block <| .seq <| .block <| .seq <| .seq <| .seq <| .reg0 rfl (.op 0 rfl (eqI rfl rfl) <| .op 0 rfl (asV rfl) <| .nil0) ?_
          by_cases c78 : a1.Kind = 1
          · rw [if_pos c78] at h
            refine .condT rfl (bt c78) <| .exit rfl <| .exit rfl <| .seq <| .reg0 rfl (.op 0 rfl (ldG rfl sz65 ag65 rfl) <| .op 0 rfl (bldS (cs := GC_c0) ze65 pl65 rfl rfl) <| .op 0 rfl (eqS (xs := [.int .i64 0, .int .i64 0, .int .i64 0, .int .i64 a1.X, .int .i64 a1.Y, .int .i64 a1.K, .int .i64 a1.Site]) (ys := [.int .i64 0, .int .i64 0, .int .i64 0, .int .i64 0, .int .i64 0, .int .i64 0, .int .i64 0]) ek65 rfl rfl rfl rfl rfl) <| .op 0 rfl (asV rfl) <| .nil0) ?_
            replace h := h.symm
            subst h
            refine .kf [(4, bo ((0 == 0) && ((0 == 0) && ((0 == 0) && ((a1.X == 0) && ((a1.Y == 0) && ((a1.K == 0) && ((a1.Site == 0) && true))))))))] rfl rfl ?_
            exact .ret rfl
          · rw [if_neg c78] at h
            refine .condF rfl (bn c78) <| .skip <| .seq <| .seq <| .reg0 rfl (.op 0 rfl (eqI rfl rfl) <| .op 0 rfl (asV rfl) <| .nil0) ?_
            by_cases c79 : a1.Kind = 2
            · rw [if_pos c79] at h
              refine .condT rfl (bt c79) <| .exit rfl <| .reg0 rfl (.op 0 rfl (faP fa65_5 rfl) <| .op 0 rfl (stB (cs0 := [i6 0, i6 0, i6 0, i6 a1.X, i6 a1.Y, i6 a1.K, i6 a1.Site]) (cs := [i6 0]) (cs1 := [i6 0, i6 0, i6 0, i6 a1.X, i6 a1.Y, i6 0, i6 a1.Site]) rfl rfl sz2 rfl ⟨Nat.le_of_ble_eq_true rfl, rfl⟩ rfl) <| .nil0) <| .inBlock <| .keepL [2] [(5, bo t4_5), (7, .ptr 0 1 7 0 0)] [⟨7, [[i6 0, i6 0, i6 0, i6 a1.X, i6 a1.Y, i6 0, i6 a1.Site]], 0, none⟩] (by decide) (by decide) ⟨.free rfl rfl, .ptr rfl, trivial⟩ ⟨⟨_, rfl, bcBox (all2_free rfl)⟩, trivial⟩ ?_
              exact hJ3 _ h
            · rw [if_neg c79] at h
              refine .condF rfl (bn c79) <| .skip <| .seq <| .seq <| .seq <| .reg0 rfl (.op 0 rfl (eqI rfl rfl) <| .op 0 rfl (asV rfl) <| .nil0) ?_
              refine .consJ (fun s_ => graph_stepRight.j4 a0 a1 t4_5 t4_11 s_ r) (fun x12 => listEnv [(2, .ptr 0 1 10 0 0), (3, .ptr 1 1 7 0 0), (5, bo t4_5), (6, bo t4_11), (7, .ptr 2 1 7 0 0), (56, i6 a1.Kind), (61, bo x12)]) (fun x12 => [⟨10, [(TGraph.lit a0)], 0, none⟩, ⟨7, [(TStep.lit a1)], 0, none⟩, ⟨7, [[i6 0, i6 0, i6 0, i6 a1.X, i6 a1.Y, i6 a1.K, i6 a1.Site]], 0, none⟩]) ?_ fun hJ4 => ?_
              · rintro x12 h
                unfold graph_stepRight.j4 at h
                try dsimp only at h
                by_cases c82 : x12 = true
                · rw [if_pos c82] at h
                  refine .condT rfl c82 <| .exit rfl <| .keepL [2] [(5, bo t4_5), (7, .ptr 0 1 7 0 0)] [⟨7, [[i6 0, i6 0, i6 0, i6 a1.X, i6 a1.Y, i6 a1.K, i6 a1.Site]], 0, none⟩] (by decide) (by decide) ⟨.free rfl rfl, .ptr rfl, trivial⟩ ⟨⟨_, rfl, bcBox (all2_free rfl)⟩, trivial⟩ ?_
                  exact hJ3 _ h
                · rw [if_neg c82] at h
                  refine .condF rfl (nb c82) <| .skip <| .seq <| .seq <| .reg0 rfl (.op 0 rfl (eqI rfl rfl) <| .op 0 rfl (asV rfl) <| .nil0) ?_
                  by_cases c83 : a1.Kind = 3
                  · rw [if_pos c83] at h
                    refine .condT rfl (bt c83) <| .exit rfl <| .keepL [2] [(5, bo t4_5), (6, bo t4_11), (7, .ptr 0 1 7 0 0)] [⟨7, [[i6 0, i6 0, i6 0, i6 a1.X, i6 a1.Y, i6 a1.K, i6 a1.Site]], 0, none⟩] (by decide) (by decide) ⟨.free rfl rfl, .free rfl rfl, .ptr rfl, trivial⟩ ⟨⟨_, rfl, bcBox (all2_free rfl)⟩, trivial⟩ ?_
                    exact hJ2 _ h
                  · rw [if_neg c83] at h
                    refine .condF rfl (bn c83) <| .skip <| .seq <| .reg0 rfl (.op 0 rfl (eqI rfl rfl) <| .op 0 rfl (asV rfl) <| .nil0) ?_
                    by_cases c84 : a1.Kind = 8
                    · rw [if_pos c84] at h
                      refine .condT rfl (bt c84) <| .exit rfl <| .keepL [0, 1, 2] [(2, .ptr 0 1 10 0 0), (3, .ptr 1 1 7 0 0), (7, .ptr 2 1 7 0 0)] [⟨10, [(TGraph.lit a0)], 0, none⟩, ⟨7, [(TStep.lit a1)], 0, none⟩, ⟨7, [[i6 0, i6 0, i6 0, i6 a1.X, i6 a1.Y, i6 a1.K, i6 a1.Site]], 0, none⟩] (by decide) (by decide) ⟨.ptr rfl, .ptr rfl, .ptr rfl, trivial⟩ ⟨⟨_, rfl, bcBox (all2_free rfl)⟩, ⟨_, rfl, bcBox (all2_free rfl)⟩, ⟨_, rfl, bcBox (all2_free rfl)⟩, trivial⟩ ?_
                      exact hJ1 _ h
                    · rw [if_neg c84] at h
                      refine .condF rfl (bn c84) <| .skip <| .exit rfl <| .seq <| .seq <| .reg0 rfl (.op 0 rfl (asV rfl) <| .nil0) ?_
                      replace h := h.symm
                      subst h
                      refine .kf [(4, bo false)] rfl rfl ?_
                      exact .ret rfl
              · by_cases c85 : a1.Kind = 4
                · rw [if_pos c85] at h
                  refine .condT rfl (bt c85) <| .skip <| .keepL [0, 1, 2] [(2, .ptr 0 1 10 0 0), (3, .ptr 1 1 7 0 0), (5, bo t4_5), (6, bo t4_11), (7, .ptr 2 1 7 0 0), (56, i6 a1.Kind), (61, bo (a1.Kind == 4))] [⟨10, [(TGraph.lit a0)], 0, none⟩, ⟨7, [(TStep.lit a1)], 0, none⟩, ⟨7, [[i6 0, i6 0, i6 0, i6 a1.X, i6 a1.Y, i6 a1.K, i6 a1.Site]], 0, none⟩] (by decide) (by decide) ⟨.ptr rfl, .ptr rfl, .free rfl rfl, .free rfl rfl, .ptr rfl, .free rfl rfl, .free rfl rfl, trivial⟩ ⟨⟨_, rfl, bcBox (all2_free rfl)⟩, ⟨_, rfl, bcBox (all2_free rfl)⟩, ⟨_, rfl, bcBox (all2_free rfl)⟩, trivial⟩ ?_
                  exact hJ4 _ h
                · rw [if_neg c85] at h
                  refine .condF rfl (bn c85) <| .seq <| .reg0 rfl (.op 0 rfl (eqI rfl rfl) <| .op 0 rfl (asV rfl) <| .nil0) ?_
                  by_cases c86 : a1.Kind = 5
                  · rw [if_pos c86] at h
                    refine .condT rfl (bt c86) <| .skip <| .keepL [0, 1, 2] [(2, .ptr 0 1 10 0 0), (3, .ptr 1 1 7 0 0), (5, bo t4_5), (6, bo t4_11), (7, .ptr 2 1 7 0 0), (56, i6 a1.Kind), (61, bo (a1.Kind == 5))] [⟨10, [(TGraph.lit a0)], 0, none⟩, ⟨7, [(TStep.lit a1)], 0, none⟩, ⟨7, [[i6 0, i6 0, i6 0, i6 a1.X, i6 a1.Y, i6 a1.K, i6 a1.Site]], 0, none⟩] (by decide) (by decide) ⟨.ptr rfl, .ptr rfl, .free rfl rfl, .free rfl rfl, .ptr rfl, .free rfl rfl, .free rfl rfl, trivial⟩ ⟨⟨_, rfl, bcBox (all2_free rfl)⟩, ⟨_, rfl, bcBox (all2_free rfl)⟩, ⟨_, rfl, bcBox (all2_free rfl)⟩, trivial⟩ ?_
                    exact hJ4 _ h
                  · rw [if_neg c86] at h
                    refine .condF rfl (bn c86) <| .reg0 rfl (.o (eqI rfl rfl) <| .a rfl <| .nil0) <| .keepL [0, 1, 2] [(2, .ptr 0 1 10 0 0), (3, .ptr 1 1 7 0 0), (5, bo t4_5), (6, bo t4_11), (7, .ptr 2 1 7 0 0), (56, i6 a1.Kind), (61, bo (a1.Kind == 6))] [⟨10, [(TGraph.lit a0)], 0, none⟩, ⟨7, [(TStep.lit a1)], 0, none⟩, ⟨7, [[i6 0, i6 0, i6 0, i6 a1.X, i6 a1.Y, i6 a1.K, i6 a1.Site]], 0, none⟩] (by decide) (by decide) ⟨.ptr rfl, .ptr rfl, .free rfl rfl, .free rfl rfl, .ptr rfl, .free rfl rfl, .free rfl rfl, trivial⟩ ⟨⟨_, rfl, bcBox (all2_free rfl)⟩, ⟨_, rfl, bcBox (all2_free rfl)⟩, ⟨_, rfl, bcBox (all2_free rfl)⟩, trivial⟩ ?_
                    exact hJ4 _ h
def slices_IndexFunc_Point.b1 (a0 : List TPoint) (a1 : TPoint → Bool → Prop) : Int → Rnd Int Unit Int → Prop := fun x1 z1 => if x1 < (a0.length : Int) then (((InR x1 a0.length)) ∧ ∃ t15_5 : Bool, (a1 (rdl a0 x1) t15_5) ∧ if t15_5 = true then (z1 = .ret x1) else (z1 = .next (IntKind.i64.wrap (x1 + 1)))) else (z1 = .exit ())
def slices_IndexFunc_Point.f (a0 : List TPoint) (a1 : TPoint → Bool → Prop) (r : Int) : Prop :=
  ∃ o1 : Fin Unit Int, Loop (slices_IndexFunc_Point.b1 a0 a1) 0 o1 ∧ o1.on (fun _ => r = (-1)) (fun r_ => r = r_)
theorem slices_IndexFunc_Point.D {a0 : List TPoint} {a1 : TPoint → Bool → Prop} {r : Int} {c1_ : FuncId} {k1_ : List PV} (hg1_ : isGo Tryz.prog c1_ = true) (hk1_ : PV.free deep (.clo c1_ k1_) = true) (hka1_ : k1_.all (PV.free deep) = true) (hq1_ : ∀ x0_ y_, a1 x0_ y_ → D Tryz.prog X (.callH c1_ ([.agg (TPoint.lit x0_)] ++ k1_) [] (.val (.bool y_)) [])) (h : slices_IndexFunc_Point.f a0 a1 r) : D Tryz.prog X (.callH 71 [.rows (a0.map TPoint.cells), .clo c1_ k1_] [] (.val (.int .i64 r)) []) := by
  unfold slices_IndexFunc_Point.f at h
  refine .enter 19 0 fn71 rfl rfl rfl <| .seq <| .reg0 rfl (.op 0 rfl (asV rfl) <| .nil0) <| .seq <| .seq <| .reg0 rfl (.op 0 rfl (mvR rfl) <| .op 0 rfl (lnR (l := a0) sl26 rfl) <| .op 0 rfl (mvV rfl) <| .nil0) <| .block <| .keepL [] [(0, .rows (a0.map TPoint.cells)), (1, .clo c1_ k1_), (7, i6 (a0.length : Int)), (8, i6 0)] [] (by decide) (by decide) ⟨.free rfl rfl, .free rfl hk1_, .free rfl rfl, .free rfl rfl, trivial⟩ trivial ?_
  obtain ⟨o1, hL1, h⟩ := h
  refine .loopB (slices_IndexFunc_Point.b1 a0 a1) (fun x1 => listEnv [(0, .rows (a0.map TPoint.cells)), (1, .clo c1_ k1_), (7, i6 (a0.length : Int)), (8, i6 x1)]) (fun x1 => []) (fun _ => listEnv []) (fun _ => []) hL1 (fun r_ => r = r_) ?_ ?_ ?_
  · rintro ⟨⟩ rfl
    try dsimp only [Fin.on] at h
    refine .seq <| .reg0 rfl (.op 0 rfl (asV rfl) <| .nil0) ?_
    replace h := h.symm
    subst h
    refine .kf [(4, i6 (-1))] rfl rfl ?_
    exact .ret rfl
  · rintro r_ rfl
    exact h
  · rintro x1 z1 h hn1 hx1 hr1
    dsimp only [slices_IndexFunc_Point.b1] at h
    refine .seq <| .reg0 rfl (.op 0 rfl (ltI rfl rfl) <| .nil0) <| .seq ?_
    by_cases c5 : x1 < (a0.length : Int)
    · rw [if_pos c5] at h
      refine .condT rfl (dt c5) <| .skip <| .seq <| .block <| .seq <| .reg0 rfl (.op 0 rfl (mvV rfl) <| .op 0 rfl (asV rfl) <| .nil0) <| .seq ?_
      obtain ⟨g15_3, h⟩ := h
      obtain ⟨t15_5, g15_5, h⟩ := h
      refine .reg0 rfl (.o (mvF rfl) <| .o (mvR rfl) <| .m rfl <| .o (ixR (l := a0) (lit := TPoint.lit) sl26 rfl rfl (fun _ => rfl) g15_3.1 g15_3.2) <| .o (ldCG rfl sz95 ag95 rfl) <| .callI rfl (callee_of rfl hg1_ rfl) (.pure (allCons rfl hka1_) rfl (hq1_ _ _ g15_5)) <| .nil0) ?_
      by_cases c6 : t15_5 = true
      · rw [if_pos c6] at h
        refine .condT rfl c6 <| .seq <| .reg0 rfl (.op 0 rfl (mvV rfl) <| .op 0 rfl (asV rfl) <| .nil0) ?_
        have q3 := hr1 _ h
        replace q3 := q3.symm
        subst q3
        refine .kf [(4, i6 x1)] rfl rfl ?_
        exact .ret rfl
      · rw [if_neg c6] at h
        refine .condF rfl (nb c6) <| .skip <| .inBlock <| .reg0 rfl (.op 0 rfl (addI rfl rfl) <| .op 0 rfl (mvV rfl) <| .nil0) <| .k [(0, .rows (a0.map TPoint.cells)), (1, .clo c1_ k1_), (7, i6 (a0.length : Int)), (8, i6 (IntKind.i64.wrap (x1 + 1)))] ⟨.free rfl rfl, .free rfl hk1_, .free rfl rfl, .free rfl rfl, trivial⟩ ?_
        exact hn1 _ h
    · rw [if_neg c5] at h
      refine .condF rfl (df c5) <| .exit rfl <| .keepL [] [] [] (by decide) (by decide) trivial trivial ?_
      exact hx1 _ h
def slices_ContainsFunc_Point.f (a0 : List TPoint) (a1 : TPoint → Bool → Prop) (r : Bool) : Prop :=
  ∃ t2_2 : Int, (slices_IndexFunc_Point.f a0 a1 t2_2) ∧ r = (decide (t2_2 ≥ 0))
theorem slices_ContainsFunc_Point.D {a0 : List TPoint} {a1 : TPoint → Bool → Prop} {r : Bool} {c1_ : FuncId} {k1_ : List PV} (hg1_ : isGo Tryz.prog c1_ = true) (hk1_ : PV.free deep (.clo c1_ k1_) = true) (hka1_ : k1_.all (PV.free deep) = true) (hq1_ : ∀ x0_ y_, a1 x0_ y_ → D Tryz.prog X (.callH c1_ ([.agg (TPoint.lit x0_)] ++ k1_) [] (.val (.bool y_)) [])) (h : slices_ContainsFunc_Point.f a0 a1 r) : D Tryz.prog X (.callH 43 [.rows (a0.map TPoint.cells), .clo c1_ k1_] [] (.val (.bool r)) []) := by
  unfold slices_ContainsFunc_Point.f at h
  refine .enter 9 0 fn43 rfl rfl rfl <| .seq <| .reg0 rfl (.op 0 rfl (asV rfl) <| .nil0) <| .seq ?_
  obtain ⟨t2_2, g2_2, h⟩ := h
  refine .reg0 rfl (.o (mvR rfl) <| .o (mvF rfl) <| .callI rfl (callee_of rfl go71 rfl) (.pure (allCons rfl (allCons hk1_ rfl)) rfl (slices_IndexFunc_Point.D hg1_ hk1_ hka1_ hq1_ g2_2)) <| .o (geI rfl rfl) <| .a rfl <| .nil0) ?_
  replace h := h.symm
  subst h
  refine .kf [(4, bo (decide (t2_2 ≥ 0)))] rfl rfl ?_
  exact .ret rfl
def graph_Check_1.f (a0 : TPoint) (f0 : TGraph) (r : Bool) : Prop :=
  ∃ t2_5 : Bool, (graph_in.f a0.Node (f0.Of.length : Int) t2_5) ∧ r = (!t2_5)
theorem graph_Check_1.D {a0 f0 r} (h : graph_Check_1.f a0 f0 r) : D Tryz.prog X (.callH 44 [.agg (TPoint.lit a0), .cptr (TGraph.lit f0) 0] [] (.val (.bool r)) []) := by
  unfold graph_Check_1.f at h
  refine .enter 11 0 fn44 rfl rfl rfl <| .seq <| .room 0 <| .reg0 rfl (.op 0 rfl (bxP (s := 2) (cs := (TPoint.lit a0)) rfl ⟨rfl, by decide, rfl⟩ rfl) <| .op 0 rfl (asV rfl) <| .nil0) <| .seq ?_
  obtain ⟨t2_5, g2_5, h⟩ := h
  refine .reg0 rfl (.o (faP fa95_1 rfl) <| .o (ldP rfl sz3 ag3 rfl) <| .o (faC fa29_5 rfl) <| .o (ldC rfl sz23 ag23 rfl) <| .o (lnR (l := f0.Of) sl23 rfl) <| .c rfl go45 rfl rfl rfl (graph_in.D g2_5) <| .o (notB rfl) <| .a rfl <| .nil0) ?_
  replace h := h.symm
  subst h
  refine .kf [(3, bo (!t2_5))] rfl rfl ?_
  exact .ret rfl
end Go.RM.Tryz
