/- GD, for the statement FramesStates: what it needs, no more. -/
import Derived.Test.YtcogffeinodfaaaGreatDoorZFramesStatesGC
set_option linter.unusedVariables false
set_option maxRecDepth 8000
set_option maxHeartbeats 4000000
namespace Go.RM.Tryz
open Go.RM Go.Proofs
variable {X : FuncId → List PV → Heap → PV → Heap → Prop}
def slices_IndexFunc_Sink.b1 (a0 : List TSink) (a1 : TSink → Bool → Prop) : Int → Rnd Int Unit Int → Prop := fun x1 z1 => if x1 < (a0.length : Int) then (((InR x1 a0.length)) ∧ ∃ t15_5 : Bool, (a1 (rdl a0 x1) t15_5) ∧ if t15_5 = true then (z1 = .ret x1) else (z1 = .next (IntKind.i64.wrap (x1 + 1)))) else (z1 = .exit ())
def slices_IndexFunc_Sink.f (a0 : List TSink) (a1 : TSink → Bool → Prop) (r : Int) : Prop :=
  ∃ o1 : Fin Unit Int, Loop (slices_IndexFunc_Sink.b1 a0 a1) 0 o1 ∧ o1.on (fun _ => r = (-1)) (fun r_ => r = r_)
abbrev GD_c0 : List PV := [i6 0, nul, u6 0, nul]
theorem slices_IndexFunc_Sink.D {a0 : List TSink} {a1 : TSink → Bool → Prop} {r : Int} {c1_ : FuncId} {k1_ : List PV} (hg1_ : isGo Tryz.prog c1_ = true) (hk1_ : PV.free deep (.clo c1_ k1_) = true) (hka1_ : k1_.all (PV.free deep) = true) (hq1_ : ∀ x0_ y_, a1 x0_ y_ → D Tryz.prog X (.callH c1_ ([.agg (TSink.lit x0_)] ++ k1_) [] (.val (.bool y_)) [])) (h : slices_IndexFunc_Sink.f a0 a1 r) : D Tryz.prog X (.callH 72 [.rows (a0.map TSink.cells), .clo c1_ k1_] [] (.val (.int .i64 r)) []) := by
  unfold slices_IndexFunc_Sink.f at h
  refine .enter 19 0 fn72 rfl rfl rfl <| .seq <| .reg0 rfl (.op 0 rfl (asV rfl) <| .nil0) <| .seq <| .seq <| .reg0 rfl (.op 0 rfl (mvR rfl) <| .op 0 rfl (lnR (l := a0) sl27 rfl) <| .op 0 rfl (mvV rfl) <| .nil0) <| .block <| .keepL [] [(0, .rows (a0.map TSink.cells)), (1, .clo c1_ k1_), (7, i6 (a0.length : Int)), (8, i6 0)] [] (by decide) (by decide) ⟨.free rfl rfl, .free rfl hk1_, .free rfl rfl, .free rfl rfl, trivial⟩ trivial ?_
  obtain ⟨o1, hL1, h⟩ := h
  refine .loopB (slices_IndexFunc_Sink.b1 a0 a1) (fun x1 => listEnv [(0, .rows (a0.map TSink.cells)), (1, .clo c1_ k1_), (7, i6 (a0.length : Int)), (8, i6 x1)]) (fun x1 => []) (fun _ => listEnv []) (fun _ => []) hL1 (fun r_ => r = r_) ?_ ?_ ?_
  · rintro ⟨⟩ rfl
    try dsimp only [Fin.on] at h
    refine .seq <| .reg0 rfl (.op 0 rfl (asV rfl) <| .nil0) ?_
    replace h := h.symm
    subst h
    refine .kf [(4, i6 (-1))] rfl rfl ?_
    exact .ret rfl
  · rintro r_ rfl
    exact h
  · rintro x1 z1 h hn1 hx1 hr1
    dsimp only [slices_IndexFunc_Sink.b1] at h
    refine .seq <| .reg0 rfl (.op 0 rfl (ltI rfl rfl) <| .nil0) <| .seq ?_
    by_cases c5 : x1 < (a0.length : Int)
    · rw [if_pos c5] at h
      refine .condT rfl (dt c5) <| .skip <| .seq <| .block <| .seq <| .reg0 rfl (.op 0 rfl (mvV rfl) <| .op 0 rfl (asV rfl) <| .nil0) <| .seq ?_
      obtain ⟨g15_3, h⟩ := h
      obtain ⟨t15_5, g15_5, h⟩ := h
      refine .reg0 rfl (.o (mvF rfl) <| .o (mvR rfl) <| .m rfl <| .o (ixR (l := a0) (lit := TSink.lit) sl27 rfl rfl (fun _ => rfl) g15_3.1 g15_3.2) <| .o (ldCG rfl sz67 ag67 rfl) <| .callI rfl (callee_of rfl hg1_ rfl) (.pure (allCons rfl hka1_) rfl (hq1_ _ _ g15_5)) <| .nil0) ?_
      by_cases c6 : t15_5 = true
      · rw [if_pos c6] at h
        refine .condT rfl c6 <| .seq <| .reg0 rfl (.op 0 rfl (mvV rfl) <| .op 0 rfl (asV rfl) <| .nil0) ?_
        have q3 := hr1 _ h
        replace q3 := q3.symm
        subst q3
        refine .kf [(4, i6 x1)] rfl rfl ?_
        exact .ret rfl
      · rw [if_neg c6] at h
        refine .condF rfl (nb c6) <| .skip <| .inBlock <| .reg0 rfl (.op 0 rfl (addI rfl rfl) <| .op 0 rfl (mvV rfl) <| .nil0) <| .k [(0, .rows (a0.map TSink.cells)), (1, .clo c1_ k1_), (7, i6 (a0.length : Int)), (8, i6 (IntKind.i64.wrap (x1 + 1)))] ⟨.free rfl rfl, .free rfl hk1_, .free rfl rfl, .free rfl rfl, trivial⟩ ?_
        exact hn1 _ h
    · rw [if_neg c5] at h
      refine .condF rfl (df c5) <| .exit rfl <| .keepL [] [] [] (by decide) (by decide) trivial trivial ?_
      exact hx1 _ h
def slices_ContainsFunc_Sink.f (a0 : List TSink) (a1 : TSink → Bool → Prop) (r : Bool) : Prop :=
  ∃ t2_2 : Int, (slices_IndexFunc_Sink.f a0 a1 t2_2) ∧ r = (decide (t2_2 ≥ 0))
theorem slices_ContainsFunc_Sink.D {a0 : List TSink} {a1 : TSink → Bool → Prop} {r : Bool} {c1_ : FuncId} {k1_ : List PV} (hg1_ : isGo Tryz.prog c1_ = true) (hk1_ : PV.free deep (.clo c1_ k1_) = true) (hka1_ : k1_.all (PV.free deep) = true) (hq1_ : ∀ x0_ y_, a1 x0_ y_ → D Tryz.prog X (.callH c1_ ([.agg (TSink.lit x0_)] ++ k1_) [] (.val (.bool y_)) [])) (h : slices_ContainsFunc_Sink.f a0 a1 r) : D Tryz.prog X (.callH 46 [.rows (a0.map TSink.cells), .clo c1_ k1_] [] (.val (.bool r)) []) := by
  unfold slices_ContainsFunc_Sink.f at h
  refine .enter 9 0 fn46 rfl rfl rfl <| .seq <| .reg0 rfl (.op 0 rfl (asV rfl) <| .nil0) <| .seq ?_
  obtain ⟨t2_2, g2_2, h⟩ := h
  refine .reg0 rfl (.o (mvR rfl) <| .o (mvF rfl) <| .callI rfl (callee_of rfl go72 rfl) (.pure (allCons rfl (allCons hk1_ rfl)) rfl (slices_IndexFunc_Sink.D hg1_ hk1_ hka1_ hq1_ g2_2)) <| .o (geI rfl rfl) <| .a rfl <| .nil0) ?_
  replace h := h.symm
  subst h
  refine .kf [(4, bo (decide (t2_2 ≥ 0)))] rfl rfl ?_
  exact .ret rfl
def graph_Check_2.f (a0 : TSink) (f0 : TGraph) (r : Bool) : Prop :=
  ∃ t2_5 : Bool, (graph_in.f a0.Node (f0.Of.length : Int) t2_5) ∧ ∃ t2_13 : Bool, ((t2_5 = true) → graph_in.f a0.X (f0.Vars.length : Int) t2_13) ∧ r = ((!t2_5) || (!t2_13))
theorem graph_Check_2.D {a0 f0 r} (h : graph_Check_2.f a0 f0 r) : D Tryz.prog X (.callH 47 [.agg (TSink.lit a0), .cptr (TGraph.lit f0) 0] [] (.val (.bool r)) []) := by
  unfold graph_Check_2.f at h
  refine .enter 20 0 fn47 rfl rfl rfl <| .seq <| .room 0 <| .reg0 rfl (.op 0 rfl (bxP (s := 2) (cs := (TSink.lit a0)) rfl ⟨rfl, by decide, rfl⟩ rfl) <| .op 0 rfl (asV rfl) <| .nil0) <| .seq ?_
  obtain ⟨t2_5, g2_5, h⟩ := h
  obtain ⟨t2_13, g2_13, h⟩ := h
  refine .reg0 (e1 := listEnv [(3, bo ((!t2_5) || (!t2_13)))]) (H1 := [⟨2, [(TSink.lit a0)], 0, none⟩]) rfl ?_ ?_
  · refine .o (faP fa67_1 rfl) <| .o (ldP rfl sz3 ag3 rfl) <| .o (faC fa29_5 rfl) <| .o (ldC rfl sz23 ag23 rfl) <| .o (lnR (l := f0.Of) sl23 rfl) <| .c rfl go45 rfl rfl rfl (graph_in.D g2_5) <| .o (notB rfl) <| .m rfl <| ?_
    by_cases c1 : t2_5 = true
    · exact (.g rfl (bnotF c1) (faP fa67_0 rfl) <| .g rfl (bnotF c1) (ldP rfl sz3 ag3 rfl) <| .g rfl (bnotF c1) (faC fa29_0 rfl) <| .g rfl (bnotF c1) (ldC rfl sz22 ag22 rfl) <| .g rfl (bnotF c1) (lnR (l := f0.Vars) sl22 rfl) <| .callI (gT rfl rfl rfl (bnotF c1)) (callee_of rfl go45 rfl) (.pure rfl rfl (graph_in.D (g2_13 c1))) <| .g rfl (bnotF c1) (notB rfl) <| .o (pkFV rfl (bnotF c1) rfl) <| .a rfl <| .nilL _ ⟨cB rfl (mOrF (bnotF c1) rfl), trivial⟩)
    · exact (.n rfl (bnotT (nb c1)) <| .n rfl (bnotT (nb c1)) <| .n rfl (bnotT (nb c1)) <| .n rfl (bnotT (nb c1)) <| .n rfl (bnotT (nb c1)) <| .n rfl (bnotT (nb c1)) <| .n rfl (bnotT (nb c1)) <| .o (pkTV rfl (bnotT (nb c1)) rfl) <| .a rfl <| .nilL _ ⟨cB rfl (mOrT (bnotT (nb c1))), trivial⟩)
  replace h := h.symm
  subst h
  refine .kf [(3, bo ((!t2_5) || (!t2_13)))] rfl rfl ?_
  exact .ret rfl
def graph_Check.j1 (x7 : Int) : (Bool × Int) → (Rnd ((Bool × Int × Int)) ((Bool × Int)) Int) → Prop := fun (x16, x17) z1 => z1 = .next (x16, x17, (IntKind.i64.wrap (x7 + 1)))
def graph_Check.b1 (a0 : TGraph) : (Bool × Int × Int) → Rnd ((Bool × Int × Int)) ((Bool × Int)) Int → Prop := fun (x5, x6, x7) z1 => if (x5 && (decide (x7 < (a0.Steps.length : Int)))) = true then (((InR x7 a0.Steps.length)) ∧ ∃ t46_2 : Bool, (graph_stepRight.f a0 (rdl a0.Steps x7) t46_2) ∧ if (rdl a0.Steps x7).Kind = 8 then (graph_Check.j1 x7 ((t46_2 && ((rdl a0.Steps x7).Site == x6)), (IntKind.i64.wrap (x6 + 1))) z1) else (graph_Check.j1 x7 (t46_2, x6) z1)) else (z1 = .exit (x5, x6))
def graph_Check.f (a0 : TGraph) (r : Int) : Prop :=
  ∃ t2_1 : Bool, (graph_procsRight.f a0 t2_1) ∧ ∃ o1 : Fin ((Bool × Int)) Int, Loop (graph_Check.b1 a0) (t2_1, 0, 0) o1 ∧ o1.on (fun (x12, x13) => ∃ t54_5 : Bool, (((x12 && (x13 == (a0.Sites.length : Int))) = true) → slices_ContainsFunc_Point.f a0.Points (fun x0_ y_ => graph_Check_1.f x0_ a0 y_) t54_5) ∧ ∃ t55_5 : Bool, ((((x12 && (x13 == (a0.Sites.length : Int))) && (!t54_5)) = true) → slices_ContainsFunc_Sink.f a0.Sinks (fun x0_ y_ => graph_Check_2.f x0_ a0 y_) t55_5) ∧ if (((x12 && (x13 == (a0.Sites.length : Int))) && (!t54_5)) && (!t55_5)) = true then (r = 0) else (r = 213)) (fun r_ => r = r_)
theorem graph_Check.D {a0 r} (h : graph_Check.f a0 r) : D Tryz.prog X (.callH 25 [.agg (TGraph.lit a0)] [] (.val (.int .i64 r)) []) := by
  unfold graph_Check.f at h
  refine .enter 65 0 fn25 rfl rfl rfl <| .seq <| .room 0 <| .reg0 rfl (.op 0 rfl (bxP (s := 10) (cs := (TGraph.lit a0)) rfl ⟨rfl, by decide, rfl⟩ rfl) <| .op 0 rfl (asV rfl) <| .nil0) <| .seq ?_
  obtain ⟨t2_1, g2_1, h⟩ := h
  refine .reg0 rfl (.o (ldG rfl sz29 ag29 rfl) <| .c rfl go41 rfl rfl rfl (graph_procsRight.D g2_1) <| .a rfl <| .nil0) <| .seq <| .reg0 rfl (.op 0 rfl (asV rfl) <| .nil0) <| .seq <| .seq <| .reg0 rfl (.op 0 rfl (asV rfl) <| .nil0) <| .block <| .keepL [0] [(1, .ptr 0 1 10 0 0), (3, bo t2_1), (4, i6 0), (5, i6 0)] [⟨10, [(TGraph.lit a0)], 0, none⟩] (by decide) (by decide) ⟨.ptr rfl, .free rfl rfl, .free rfl rfl, .free rfl rfl, trivial⟩ ⟨⟨_, rfl, bcBox (all2_free rfl)⟩, trivial⟩ ?_
  obtain ⟨o1, hL1, h⟩ := h
  refine .loopB (graph_Check.b1 a0) (fun (x5, x6, x7) => listEnv [(1, .ptr 0 1 10 0 0), (3, bo x5), (4, i6 x6), (5, i6 x7)]) (fun (x5, x6, x7) => [⟨10, [(TGraph.lit a0)], 0, none⟩]) (fun (x12, x13) => listEnv [(1, .ptr 0 1 10 0 0), (3, bo x12), (4, i6 x13)]) (fun (x12, x13) => [⟨10, [(TGraph.lit a0)], 0, none⟩]) hL1 (fun r_ => r = r_) ?_ ?_ ?_
  · rintro ⟨x12, x13⟩ rfl
    try dsimp only [Fin.on] at h
    refine .seq ?_
    refine .reg0 (e1 := listEnv [(1, .ptr 0 1 10 0 0), (3, bo (x12 && (x13 == (a0.Sites.length : Int))))]) (H1 := [⟨10, [(TGraph.lit a0)], 0, none⟩]) rfl ?_ ?_
    · refine .m rfl <| .m rfl <| ?_
      by_cases c31 : x12 = true
      · exact (.g rfl c31 (mvV rfl) <| .g rfl c31 (faP fa29_7 rfl) <| .g rfl c31 (ldP rfl sz25 ag25 rfl) <| .g rfl c31 (lnR (l := a0.Sites) sl25 rfl) <| .g rfl c31 (eqI rfl rfl) <| .o (pkTV rfl c31 rfl) <| .a rfl <| .nilL _ ⟨.ptr rfl, cB rfl (mAndT c31 rfl), trivial⟩)
      · exact (.n rfl (nb c31) <| .n rfl (nb c31) <| .n rfl (nb c31) <| .n rfl (nb c31) <| .n rfl (nb c31) <| .o (pkFV rfl (nb c31) rfl) <| .a rfl <| .nilL _ ⟨.ptr rfl, cB rfl (mAndF (nb c31)), trivial⟩)
    refine .seq ?_
    obtain ⟨t54_5, g54_5, h⟩ := h
    refine .reg0 (e1 := listEnv [(1, .ptr 0 1 10 0 0), (3, bo ((x12 && (x13 == (a0.Sites.length : Int))) && (!t54_5)))]) (H1 := [⟨10, [(TGraph.lit a0)], 0, none⟩]) rfl ?_ ?_
    · refine .m rfl <| .m rfl <| ?_
      by_cases c32 : (x12 && (x13 == (a0.Sites.length : Int))) = true
      · exact (.g rfl c32 (faP fa29_8 rfl) <| .g rfl c32 (ldP rfl sz26 ag26 rfl) <| .g rfl c32 (mkF rfl) <| .callI (gT rfl rfl rfl c32) (callee_of rfl go43 rfl) (.lendC (args' := [.rows (a0.Points.map TPoint.cells), .clo 44 [.cptr (TGraph.lit a0) 0]])  [0] false (.cons (.free rfl rfl) <| .cons (cClo (.cons (cFixP rfl rfl (.cons (.free rfl rfl) <| .cons (.free rfl rfl) <| .cons (.free rfl rfl) <| .cons (.free rfl rfl) <| .cons (.free rfl rfl) <| .cons (.free rfl rfl) <| .cons (.free rfl rfl) <| .cons (.free rfl rfl) <| .cons (.free rfl rfl) <| .cons (.free rfl rfl) <| .nil)) <| .nil)) <| .nil) (by decide) rfl rfl rfl rfl (slices_ContainsFunc_Point.D (k1_ := [.cptr (TGraph.lit a0) 0]) go44 rfl rfl (fun x0_ y_ h_ => graph_Check_1.D h_) (g54_5 c32))) <| .g rfl c32 (notB rfl) <| .o (pkTV rfl c32 rfl) <| .a rfl <| .nilL _ ⟨.ptr rfl, cB rfl (mAndT c32 rfl), trivial⟩)
      · exact (.n rfl (nb c32) <| .n rfl (nb c32) <| .n rfl (nb c32) <| .n rfl (nb c32) <| .n rfl (nb c32) <| .o (pkFV rfl (nb c32) rfl) <| .a rfl <| .nilL _ ⟨.ptr rfl, cB rfl (mAndF (nb c32)), trivial⟩)
    refine .seq ?_
    obtain ⟨t55_5, g55_5, h⟩ := h
    refine .reg0 (e1 := listEnv [(3, bo (((x12 && (x13 == (a0.Sites.length : Int))) && (!t54_5)) && (!t55_5)))]) (H1 := [⟨10, [(TGraph.lit a0)], 0, none⟩]) rfl ?_ ?_
    · refine .m rfl <| .m rfl <| ?_
      by_cases c33 : ((x12 && (x13 == (a0.Sites.length : Int))) && (!t54_5)) = true
      · exact (.g rfl c33 (faP fa29_9 rfl) <| .g rfl c33 (ldP rfl sz27 ag27 rfl) <| .g rfl c33 (mkF rfl) <| .callI (gT rfl rfl rfl c33) (callee_of rfl go46 rfl) (.lendC (args' := [.rows (a0.Sinks.map TSink.cells), .clo 47 [.cptr (TGraph.lit a0) 0]])  [0] false (.cons (.free rfl rfl) <| .cons (cClo (.cons (cFixP rfl rfl (.cons (.free rfl rfl) <| .cons (.free rfl rfl) <| .cons (.free rfl rfl) <| .cons (.free rfl rfl) <| .cons (.free rfl rfl) <| .cons (.free rfl rfl) <| .cons (.free rfl rfl) <| .cons (.free rfl rfl) <| .cons (.free rfl rfl) <| .cons (.free rfl rfl) <| .nil)) <| .nil)) <| .nil) (by decide) rfl rfl rfl rfl (slices_ContainsFunc_Sink.D (k1_ := [.cptr (TGraph.lit a0) 0]) go47 rfl rfl (fun x0_ y_ h_ => graph_Check_2.D h_) (g55_5 c33))) <| .g rfl c33 (notB rfl) <| .o (pkTV rfl c33 rfl) <| .a rfl <| .nilL _ ⟨cB rfl (mAndT c33 rfl), trivial⟩)
      · exact (.n rfl (nb c33) <| .n rfl (nb c33) <| .n rfl (nb c33) <| .n rfl (nb c33) <| .n rfl (nb c33) <| .o (pkFV rfl (nb c33) rfl) <| .a rfl <| .nilL _ ⟨cB rfl (mAndF (nb c33)), trivial⟩)
    refine .seq <| .seq <| .reg0 rfl (.op 0 rfl (mvV rfl) <| .op 0 rfl (notB rfl) <| .nil0) ?_
    by_cases c34 : (((x12 && (x13 == (a0.Sites.length : Int))) && (!t54_5)) && (!t55_5)) = true
    · rw [if_pos c34] at h
      refine .condF rfl (bnotF c34) <| .skip <| .seq <| .reg0 rfl (.op 0 rfl (asV rfl) <| .nil0) ?_
      replace h := h.symm
      subst h
      refine .kf [(2, i6 0)] rfl rfl ?_
      exact .ret rfl
    · rw [if_neg c34] at h
      refine .condT rfl (bnotT (nb c34)) <| .seq <| .reg0 rfl (.op 0 rfl (asV rfl) <| .nil0) ?_
      replace h := h.symm
      subst h
      refine .kf [(2, i6 213)] rfl rfl ?_
      exact .ret rfl
  · rintro r_ rfl
    exact h
  · rintro ⟨x5, x6, x7⟩ z1 h hn1 hx1 hr1
    dsimp only [graph_Check.b1] at h
    refine .seq <| .seq ?_
    refine .reg0 (e1 := listEnv [(1, .ptr 0 1 10 0 0), (3, bo x5), (4, i6 x6), (5, i6 x7), (16, bo (x5 && (decide (x7 < (a0.Steps.length : Int)))))]) (H1 := [⟨10, [(TGraph.lit a0)], 0, none⟩]) rfl ?_ ?_
    · refine .m rfl <| .m rfl <| ?_
      by_cases c21 : x5 = true
      · exact (.g rfl c21 (mvV rfl) <| .g rfl c21 (faP fa29_6 rfl) <| .g rfl c21 (ldP rfl sz24 ag24 rfl) <| .g rfl c21 (lnR (l := a0.Steps) sl24 rfl) <| .g rfl c21 (ltI rfl rfl) <| .o (pkTV rfl c21 rfl) <| .nilL _ ⟨.ptr rfl, .free rfl rfl, .free rfl rfl, .free rfl rfl, cB rfl (mAndT c21 rfl), trivial⟩)
      · exact (.n rfl (nb c21) <| .n rfl (nb c21) <| .n rfl (nb c21) <| .n rfl (nb c21) <| .n rfl (nb c21) <| .o (pkFV rfl (nb c21) rfl) <| .nilL _ ⟨.ptr rfl, .free rfl rfl, .free rfl rfl, .free rfl rfl, cB rfl (mAndF (nb c21)), trivial⟩)
    by_cases c22 : (x5 && (decide (x7 < (a0.Steps.length : Int)))) = true
    · rw [if_pos c22] at h
      refine .condT rfl c22 <| .skip <| .seq <| .block <| .seq ?_
      obtain ⟨g45_3, h⟩ := h
      refine .room 0 <| .reg0 rfl (.op 0 rfl (faP fa29_6 rfl) <| .op 0 rfl (ldP rfl sz24 ag24 rfl) <| .op 0 rfl (mvV rfl) <| .op 0 rfl (ixR (l := a0.Steps) (lit := TStep.lit) sl24 rfl rfl (fun _ => rfl) g45_3.1 g45_3.2) <| .op 0 rfl (ldCG rfl sz65 ag65 rfl) <| .op 1 rfl (alP (s := 7) ze65 ⟨rfl, by decide, rfl⟩ rfl) <| .op 0 rfl (stB (cs0 := [i6 0, i6 0, i6 0, i6 0, i6 0, i6 0, i6 0]) (cs := (TStep.lit (rdl a0.Steps x7))) (cs1 := (TStep.lit (rdl a0.Steps x7))) rfl rfl sz65 rfl ⟨Nat.le_of_ble_eq_true rfl, rfl⟩ rfl) <| .nil0) ?_
      refine .seq ?_
      obtain ⟨t46_2, g46_2, h⟩ := h
      refine .reg0 rfl (.o (ldG rfl sz29 ag29 rfl) <| .o (ldG rfl sz65 ag65 rfl) <| .c rfl go42 rfl rfl rfl (graph_stepRight.D g46_2) <| .a rfl <| .nil0) <| .seq <| .reg0 rfl (.op 0 rfl (faP fa65_2 rfl) <| .op 0 rfl (ldP rfl sz63 ag63 rfl) <| .op 0 rfl (eqI rfl rfl) <| .nil0) ?_
      refine .consJ (fun s_ => graph_Check.j1 x7 s_ z1) (fun (x16, x17) => listEnv [(1, .ptr 0 1 10 0 0), (3, bo x16), (4, i6 x17), (5, i6 x7)]) (fun (x16, x17) => [⟨10, [(TGraph.lit a0)], 0, none⟩]) ?_ fun hJ1 => ?_
      · rintro ⟨x16, x17⟩ h
        unfold graph_Check.j1 at h
        try dsimp only at h
        refine .inBlock <| .reg0 rfl (.op 0 rfl (mvV rfl) <| .op 0 rfl (addI rfl rfl) <| .op 0 rfl (asV rfl) <| .nil0) <| .keepL [0] [(1, .ptr 0 1 10 0 0), (3, bo x16), (4, i6 x17), (5, i6 (IntKind.i64.wrap (x7 + 1)))] [⟨10, [(TGraph.lit a0)], 0, none⟩] (by decide) (by decide) ⟨.ptr rfl, .free rfl rfl, .free rfl rfl, .free rfl rfl, trivial⟩ ⟨⟨_, rfl, bcBox (all2_free rfl)⟩, trivial⟩ ?_
        exact hn1 _ h
      · by_cases c29 : (rdl a0.Steps x7).Kind = 8
        · rw [if_pos c29] at h
          refine .condT rfl (bt c29) <| .seq ?_
          refine .reg0 (e1 := listEnv [(1, .ptr 0 1 10 0 0), (3, bo (t46_2 && ((rdl a0.Steps x7).Site == x6))), (4, i6 x6), (5, i6 x7)]) (H1 := [⟨10, [(TGraph.lit a0)], 0, none⟩, ⟨7, [(TStep.lit (rdl a0.Steps x7))], 0, none⟩]) rfl ?_ ?_
          · refine .m rfl <| .m rfl <| ?_
            by_cases c30 : t46_2 = true
            · exact (.g rfl c30 (faP fa65_6 rfl) <| .g rfl c30 (ldP rfl sz3 ag3 rfl) <| .g rfl c30 (mvV rfl) <| .g rfl c30 (eqI rfl rfl) <| .o (pkTV rfl c30 rfl) <| .a rfl <| .nilL _ ⟨.ptr rfl, cB rfl (mAndT c30 rfl), .free rfl rfl, .free rfl rfl, trivial⟩)
            · exact (.n rfl (nb c30) <| .n rfl (nb c30) <| .n rfl (nb c30) <| .n rfl (nb c30) <| .o (pkFV rfl (nb c30) rfl) <| .a rfl <| .nilL _ ⟨.ptr rfl, cB rfl (mAndF (nb c30)), .free rfl rfl, .free rfl rfl, trivial⟩)
          refine .reg0 rfl (.m rfl <| .o (addI rfl rfl) <| .a rfl <| .nil0) <| .keepL [0] [(1, .ptr 0 1 10 0 0), (3, bo (t46_2 && ((rdl a0.Steps x7).Site == x6))), (4, i6 (IntKind.i64.wrap (x6 + 1))), (5, i6 x7)] [⟨10, [(TGraph.lit a0)], 0, none⟩] (by decide) (by decide) ⟨.ptr rfl, .free rfl rfl, .free rfl rfl, .free rfl rfl, trivial⟩ ⟨⟨_, rfl, bcBox (all2_free rfl)⟩, trivial⟩ ?_
          exact hJ1 _ h
        · rw [if_neg c29] at h
          refine .condF rfl (bn c29) <| .skip <| .keepL [0] [(1, .ptr 0 1 10 0 0), (3, bo t46_2), (4, i6 x6), (5, i6 x7)] [⟨10, [(TGraph.lit a0)], 0, none⟩] (by decide) (by decide) ⟨.ptr rfl, .free rfl rfl, .free rfl rfl, .free rfl rfl, trivial⟩ ⟨⟨_, rfl, bcBox (all2_free rfl)⟩, trivial⟩ ?_
          exact hJ1 _ h
    · rw [if_neg c22] at h
      refine .condF rfl (nb c22) <| .exit rfl <| .keepL [0] [(1, .ptr 0 1 10 0 0), (3, bo x5), (4, i6 x6)] [⟨10, [(TGraph.lit a0)], 0, none⟩] (by decide) (by decide) ⟨.ptr rfl, .free rfl rfl, .free rfl rfl, trivial⟩ ⟨⟨_, rfl, bcBox (all2_free rfl)⟩, trivial⟩ ?_
      exact hx1 _ h
def frames_Start.f (a0 : TGraph) (r : TState × Int) : Prop :=
  ∃ t2_1 : Int, (graph_Check.f a0 t2_1) ∧ if t2_1 = 0 then (((InR a0.Main a0.Entry.length)) ∧ (((0 : Int) ≤ (a0.Vars.length : Int) ∧ Fits (a0.Vars.length : Int) 8)) ∧ r = ((TState.mk (rdl a0.Entry a0.Main) (List.replicate (Int.toNat (a0.Vars.length : Int)) (0 : Int)) 0 []), 0)) else (r = ((TState.mk 0 [] 0 []), t2_1))
theorem frames_Start.D {a0 r} (h : frames_Start.f a0 r) : D Tryz.prog X (.callH 8 [.agg (TGraph.lit a0)] [] (.tuple [.agg (TState.lit r.1), .val (.int .i64 r.2)]) []) := by
  unfold frames_Start.f at h
  refine .enter 22 0 fn8 rfl rfl rfl <| .seq <| .room 0 <| .room 0 <| .reg0 rfl (.op 0 rfl (bxP (s := 10) (cs := (TGraph.lit a0)) rfl ⟨rfl, by decide, rfl⟩ rfl) <| .op 1 rfl (alP (s := 4) ze33 ⟨rfl, by decide, rfl⟩ rfl) <| .op 0 rfl (asV rfl) <| .nil0) <| .seq <| .seq ?_
  obtain ⟨t2_1, g2_1, h⟩ := h
  refine .reg0 rfl (.o (ldG rfl sz29 ag29 rfl) <| .c rfl go25 rfl rfl rfl (graph_Check.D g2_1) <| .a rfl <| .nil0) <| .seq <| .reg0 rfl (.op 0 rfl (mvV rfl) <| .op 0 rfl (neI rfl rfl) <| .nil0) ?_
  by_cases c1 : t2_1 = 0
  · rw [if_pos c1] at h
    refine .condF rfl (nf c1) <| .skip <| .seq ?_
    obtain ⟨g4_4, h⟩ := h
    obtain ⟨g4_9, h⟩ := h
    refine .room 0 ?_
    refine .reg1 (e1 := listEnv [(2, .ptr 1 1 4 0 0), (3, i6 0)]) (H1 := [⟨10, [(TGraph.lit a0)], 0, none⟩, ⟨4, [[i6 (rdl a0.Entry a0.Main), .own 2 ((List.replicate (Int.toNat (a0.Vars.length : Int)) (0 : Int)).length), u6 0, nul]], 0, none⟩, ⟨1, (List.replicate (Int.toNat (a0.Vars.length : Int)) (0 : Int)).map (cInt .i64), 0, none⟩]) rfl ?_ ?_
    · exact .drawM [(12, 3, i6 0), (10, 21, .agg [i6 (rdl a0.Entry a0.Main), .own 2 ((List.replicate (Int.toNat (a0.Vars.length : Int)) (0 : Int)).length), u6 0, nul]), (9, 20, .own 2 ((List.replicate (Int.toNat (a0.Vars.length : Int)) (0 : Int)).length)), (8, 19, i6 (a0.Vars.length : Int)), (7, 18, .rows (a0.Vars.map cStr)), (6, 17, .ptr 0 1 10 0 0), (5, 16, i6 (rdl a0.Entry a0.Main)), (4, 15, .cptr ((cInt .i64) (rdl a0.Entry a0.Main)) 0), (3, 14, i6 a0.Main), (2, 13, .ptr 0 1 10 0 4), (1, 12, .rows (a0.Entry.map (cInt .i64))), (0, 11, .ptr 0 1 10 0 2)] [(11, 1, ⟨4, [[i6 (rdl a0.Entry a0.Main), .own 2 ((List.replicate (Int.toNat (a0.Vars.length : Int)) (0 : Int)).length), u6 0, nul]], 0, none⟩), (9, 2, ⟨1, (List.replicate (Int.toNat (a0.Vars.length : Int)) (0 : Int)).map (cInt .i64), 0, none⟩)] [[], [0], [], [2], [1, 0, 3, 2], [4, 1, 0, 3, 2], [], [6], [7, 6], [8, 7, 6], [5, 4, 1, 0, 3, 2, 9, 8, 7, 6], [10, 5, 4, 1, 0, 3, 2, 9, 8, 7, 6], [11, 10, 5, 4, 1, 0, 3, 2, 9, 8, 7, 6]] (by rfl) (by rfl) (by rfl) (by exact ⟨oP (fun _ => faP fa29_2 rfl) rfl, oP (fun _ => ldP rfl sz23 ag23 rfl) rfl, oP (fun _ => faP fa29_4 rfl) rfl, oP (fun _ => ldP rfl sz3 ag3 rfl) rfl, oP (fun _ => ixR (l := a0.Entry) (lit := (cInt .i64)) sl23 rfl rfl (fun _ => rfl) g4_4.1 g4_4.2) rfl, oP (fun _ => ldC rfl sz3 ag3 rfl) rfl, oP (fun _ => faP fa29_0 rfl) rfl, oP (fun _ => ldP rfl sz22 ag22 rfl) rfl, oP (fun _ => lnR (l := a0.Vars) sl22 rfl) rfl, oW 2 (fun _ => mkS (z0 := (0 : Int)) sl30 un30 ze2 rfl rfl g4_9.1 g4_9.2 rfl) rfl fun _ => rfl, oP (fun _ => bldS (cs := [i6 (rdl a0.Entry a0.Main), .own 2 ((List.replicate (Int.toNat (a0.Vars.length : Int)) (0 : Int)).length), u6 0, nul]) ze33 pl33 rfl rfl) rfl, fun S hS hD hn => .one0 0 rfl rfl (stB (cs0 := GD_c0) (cs := [i6 (rdl a0.Entry a0.Main), .own 2 ((List.replicate (Int.toNat (a0.Vars.length : Int)) (0 : Int)).length), u6 0, nul]) (cs1 := [i6 (rdl a0.Entry a0.Main), .own 2 ((List.replicate (Int.toNat (a0.Vars.length : Int)) (0 : Int)).length), u6 0, nul]) rfl rfl sz33 rfl ⟨Nat.le_of_ble_eq_true rfl, rfl⟩ rfl) (drawE_other _ _ _ _ rfl) rfl, oP (fun _ => asV rfl) rfl, trivial⟩) _ (by exact ⟨.ptr rfl, .free rfl rfl, trivial⟩) (by rfl)
    replace h := h.symm
    subst h
    refine .k [(2, .cptr [i6 (rdl a0.Entry a0.Main), .rows ((List.replicate (Int.toNat (a0.Vars.length : Int)) (0 : Int)).map (cInt .i64)), u6 0, .rows (([] : List Int).map (cInt .i64))] 0), (3, i6 0)] ⟨cFixP rfl rfl (.cons (.free rfl rfl) <| .cons (cFixO (l := (List.replicate (Int.toNat (a0.Vars.length : Int)) (0 : Int))) sl30 rfl rfl rfl rfl) <| .cons (.free rfl rfl) <| .cons (.nil) <| .nil), .free rfl rfl, trivial⟩ ?_
    exact .ret rfl
  · rw [if_neg c1] at h
    refine .condT rfl (nt c1) <| .seq <| .reg0 rfl (.op 0 rfl (bldS (cs := GD_c0) ze33 pl33 rfl rfl) <| .op 0 rfl (mvV rfl) <| .op 0 rfl (stB (cs0 := GD_c0) (cs := GD_c0) (cs1 := GD_c0) rfl rfl sz33 rfl ⟨Nat.le_of_ble_eq_true rfl, rfl⟩ rfl) <| .op 0 rfl (asV rfl) <| .nil0) ?_
    replace h := h.symm
    subst h
    refine .k [(2, .cptr [i6 0, .rows (([] : List Int).map (cInt .i64)), u6 0, .rows (([] : List Int).map (cInt .i64))] 0), (3, i6 t2_1)] ⟨cFixP rfl rfl (.cons (.free rfl rfl) <| .cons (.nil) <| .cons (.free rfl rfl) <| .cons (.nil) <| .nil), .free rfl rfl, trivial⟩ ?_
    exact .ret rfl
def r21_in.f (a0 : Int) (a1 : Int) (r : Bool) : Prop :=
  r = ((decide (a0 ≥ 0)) && (decide (a0 < a1)))
theorem r21_in.D {a0 a1 r} (h : r21_in.f a0 a1 r) : D Tryz.prog X (.callH 50 [.val (.int .i64 a0), .val (.int .i64 a1)] [] (.val (.bool r)) []) := by
  unfold r21_in.f at h
  refine .enter 12 0 fn50 rfl rfl rfl <| .seq <| .reg0 rfl (.op 0 rfl (asV rfl) <| .nil0) <| .seq ?_
  refine .reg0 (e1 := listEnv [(4, bo ((decide (a0 ≥ 0)) && (decide (a0 < a1))))]) (H1 := []) rfl ?_ ?_
  · refine .m rfl <| .o (geI rfl rfl) <| .m rfl <| ?_
    by_cases c1 : a0 ≥ 0
    · exact (.g rfl (dt c1) (mvV rfl) <| .g rfl (dt c1) (mvV rfl) <| .g rfl (dt c1) (ltI rfl rfl) <| .o (pkTV rfl (dt c1) rfl) <| .a rfl <| .nilL _ ⟨cB rfl (mAndT (dt c1) rfl), trivial⟩)
    · exact (.n rfl (df c1) <| .n rfl (df c1) <| .n rfl (df c1) <| .o (pkFV rfl (df c1) rfl) <| .a rfl <| .nilL _ ⟨cB rfl (mAndF (df c1)), trivial⟩)
  replace h := h.symm
  subst h
  refine .kf [(4, bo ((decide (a0 ≥ 0)) && (decide (a0 < a1))))] rfl rfl ?_
  exact .ret rfl
def r21_heads.b1 (a0 : TGraph) : Int → Rnd Int Unit Bool → Prop := fun x1 z1 => if x1 < (a0.Of.length : Int) then (((InR x1 a0.Of.length)) ∧ ∃ t15_6 : Bool, (r21_in.f (rdl a0.Of x1) (a0.Procs.length : Int) t15_6) ∧ if t15_6 = true then (z1 = .next (IntKind.i64.wrap (x1 + 1))) else (z1 = .ret false)) else (z1 = .exit ())
def r21_heads.b2 (a0 : TGraph) : Int → Rnd Int Unit Bool → Prop := fun x2 z2 => if x2 < (a0.Procs.length : Int) then (((InR x2 a0.Entry.length)) ∧ ∃ t28_6 : Bool, (r21_in.f (rdl a0.Entry x2) (a0.Of.length : Int) t28_6) ∧ ((t28_6 = true) → (InR x2 a0.Exit.length)) ∧ ∃ t28_15 : Bool, ((t28_6 = true) → r21_in.f (rdl a0.Exit x2) (a0.Of.length : Int) t28_15) ∧ ((t28_6 = true) → (t28_15 = true) → (InR x2 a0.Entry.length)) ∧ ((t28_6 = true) → (t28_15 = true) → (InR (rdl a0.Entry x2) a0.Of.length)) ∧ ((t28_6 = true) → (t28_15 = true) → ((rdl a0.Of (rdl a0.Entry x2)) = x2) → (InR x2 a0.Exit.length)) ∧ ((t28_6 = true) → (t28_15 = true) → ((rdl a0.Of (rdl a0.Entry x2)) = x2) → (InR (rdl a0.Exit x2) a0.Of.length)) ∧ if ((!t28_6) || ((!t28_15) || ((!((rdl a0.Of (rdl a0.Entry x2)) == x2)) || ((rdl a0.Of (rdl a0.Exit x2)) != x2)))) = true then (z2 = .ret false) else (z2 = .next (IntKind.i64.wrap (x2 + 1)))) else (z2 = .exit ())
def r21_heads.b3 (a0 : TGraph) : Int → Rnd Int Unit Bool → Prop := fun x3 z3 => if x3 < (a0.Sites.length : Int) then (((InR x3 a0.Sites.length)) ∧ ∃ t41_7 : Bool, (r21_in.f ((rdl a0.Sites x3).Proc) (a0.Procs.length : Int) t41_7) ∧ if t41_7 = true then (z3 = .next (IntKind.i64.wrap (x3 + 1))) else (z3 = .ret false)) else (z3 = .exit ())
def r21_heads.f (a0 : TGraph) (r : Bool) : Prop :=
  ∃ t3_34 : Bool, (¬ ((a0.Vars.length : Int) > 64) → ¬ ((a0.Procs.length : Int) < 1) → ¬ ((a0.Procs.length : Int) > 1024) → ((a0.Entry.length : Int) = (a0.Procs.length : Int)) → ((a0.Exit.length : Int) = (a0.Procs.length : Int)) → ¬ ((a0.Of.length : Int) > 4096) → r21_in.f a0.Main (a0.Procs.length : Int) t3_34) ∧ if ((decide ((a0.Vars.length : Int) > 64)) || ((decide ((a0.Procs.length : Int) < 1)) || ((decide ((a0.Procs.length : Int) > 1024)) || ((!((a0.Entry.length : Int) == (a0.Procs.length : Int))) || ((!((a0.Exit.length : Int) == (a0.Procs.length : Int))) || ((decide ((a0.Of.length : Int) > 4096)) || ((!t3_34) || (decide ((a0.Sites.length : Int) > 1024))))))))) = true then (r = false) else (∃ o1 : Fin Unit Bool, Loop (r21_heads.b1 a0) 0 o1 ∧ o1.on (fun _ => ∃ o2 : Fin Unit Bool, Loop (r21_heads.b2 a0) 0 o2 ∧ o2.on (fun _ => ∃ o3 : Fin Unit Bool, Loop (r21_heads.b3 a0) 0 o3 ∧ o3.on (fun _ => r = true) (fun r_ => r = r_)) (fun r_ => r = r_)) (fun r_ => r = r_))
abbrev GD_A0 : List (List Nat) := [[], [0], [], [1, 0, 2], [3, 1, 0, 2], [], [4, 3, 1, 0, 2, 5], [6, 4, 3, 1, 0, 2, 5], [7, 6, 4, 3, 1, 0, 2, 5], [8, 7, 6, 4, 3, 1, 0, 2, 5], [9, 8, 7, 6, 4, 3, 1, 0, 2, 5], [8, 7, 6, 4, 3, 1, 0, 2, 5], [10, 9, 8, 7, 6, 4, 3, 1, 0, 2, 5, 11], [12, 10, 9, 8, 7, 6, 4, 3, 1, 0, 2, 5, 11], [8, 7, 6, 4, 3, 1, 0, 2, 5], [13, 12, 10, 9, 8, 7, 6, 4, 3, 1, 0, 2, 5, 11, 14], [15, 13, 12, 10, 9, 8, 7, 6, 4, 3, 1, 0, 2, 5, 11, 14], [8, 7, 6, 4, 3, 1, 0, 2, 5, 16, 15, 13, 12, 10, 9, 11, 14], [17, 8, 7, 6, 4, 3, 1, 0, 2, 5, 16, 15, 13, 12, 10, 9, 11, 14], [18, 17, 8, 7, 6, 4, 3, 1, 0, 2, 5, 16, 15, 13, 12, 10, 9, 11, 14], [19, 18, 17, 8, 7, 6, 4, 3, 1, 0, 2, 5, 16, 15, 13, 12, 10, 9, 11, 14], [18, 17, 8, 7, 6, 4, 3, 1, 0, 2, 5, 16, 15, 13, 12, 10, 9, 11, 14], [21, 18, 17, 8, 7, 6, 4, 3, 1, 0, 2, 5, 16, 15, 13, 12, 10, 9, 11, 14], [18, 17, 8, 7, 6, 4, 3, 1, 0, 2, 5, 16, 15, 13, 12, 10, 9, 11, 14], [22, 21, 18, 17, 8, 7, 6, 4, 3, 1, 0, 2, 5, 16, 15, 13, 12, 10, 9, 11, 14, 23], [24, 22, 21, 18, 17, 8, 7, 6, 4, 3, 1, 0, 2, 5, 16, 15, 13, 12, 10, 9, 11, 14, 23], [20, 19, 18, 17, 8, 7, 6, 4, 3, 1, 0, 2, 5, 16, 15, 13, 12, 10, 9, 11, 14, 25, 24, 22, 21, 23], [26, 20, 19, 18, 17, 8, 7, 6, 4, 3, 1, 0, 2, 5, 16, 15, 13, 12, 10, 9, 11, 14, 25, 24, 22, 21, 23], [18, 17, 8, 7, 6, 4, 3, 1, 0, 2, 5, 16, 15, 13, 12, 10, 9, 11, 14], [27, 26, 20, 19, 18, 17, 8, 7, 6, 4, 3, 1, 0, 2, 5, 16, 15, 13, 12, 10, 9, 11, 14, 25, 24, 22, 21, 23, 28], [18, 17, 8, 7, 6, 4, 3, 1, 0, 2, 5, 16, 15, 13, 12, 10, 9, 11, 14, 29, 27, 26, 20, 19, 25, 24, 22, 21, 23, 28], [30, 18, 17, 8, 7, 6, 4, 3, 1, 0, 2, 5, 16, 15, 13, 12, 10, 9, 11, 14, 29, 27, 26, 20, 19, 25, 24, 22, 21, 23, 28], [31, 30, 18, 17, 8, 7, 6, 4, 3, 1, 0, 2, 5, 16, 15, 13, 12, 10, 9, 11, 14, 29, 27, 26, 20, 19, 25, 24, 22, 21, 23, 28], [32, 31, 30, 18, 17, 8, 7, 6, 4, 3, 1, 0, 2, 5, 16, 15, 13, 12, 10, 9, 11, 14, 29, 27, 26, 20, 19, 25, 24, 22, 21, 23, 28], [31, 30, 18, 17, 8, 7, 6, 4, 3, 1, 0, 2, 5, 16, 15, 13, 12, 10, 9, 11, 14, 29, 27, 26, 20, 19, 25, 24, 22, 21, 23, 28], [34, 31, 30, 18, 17, 8, 7, 6, 4, 3, 1, 0, 2, 5, 16, 15, 13, 12, 10, 9, 11, 14, 29, 27, 26, 20, 19, 25, 24, 22, 21, 23, 28], [31, 30, 18, 17, 8, 7, 6, 4, 3, 1, 0, 2, 5, 16, 15, 13, 12, 10, 9, 11, 14, 29, 27, 26, 20, 19, 25, 24, 22, 21, 23, 28], [35, 34, 31, 30, 18, 17, 8, 7, 6, 4, 3, 1, 0, 2, 5, 16, 15, 13, 12, 10, 9, 11, 14, 29, 27, 26, 20, 19, 25, 24, 22, 21, 23, 28, 36], [37, 35, 34, 31, 30, 18, 17, 8, 7, 6, 4, 3, 1, 0, 2, 5, 16, 15, 13, 12, 10, 9, 11, 14, 29, 27, 26, 20, 19, 25, 24, 22, 21, 23, 28, 36], [33, 32, 31, 30, 18, 17, 8, 7, 6, 4, 3, 1, 0, 2, 5, 16, 15, 13, 12, 10, 9, 11, 14, 29, 27, 26, 20, 19, 25, 24, 22, 21, 23, 28, 38, 37, 35, 34, 36], [39, 33, 32, 31, 30, 18, 17, 8, 7, 6, 4, 3, 1, 0, 2, 5, 16, 15, 13, 12, 10, 9, 11, 14, 29, 27, 26, 20, 19, 25, 24, 22, 21, 23, 28, 38, 37, 35, 34, 36], [31, 30, 18, 17, 8, 7, 6, 4, 3, 1, 0, 2, 5, 16, 15, 13, 12, 10, 9, 11, 14, 29, 27, 26, 20, 19, 25, 24, 22, 21, 23, 28], [40, 39, 33, 32, 31, 30, 18, 17, 8, 7, 6, 4, 3, 1, 0, 2, 5, 16, 15, 13, 12, 10, 9, 11, 14, 29, 27, 26, 20, 19, 25, 24, 22, 21, 23, 28, 38, 37, 35, 34, 36, 41], [31, 30, 18, 17, 8, 7, 6, 4, 3, 1, 0, 2, 5, 16, 15, 13, 12, 10, 9, 11, 14, 29, 27, 26, 20, 19, 25, 24, 22, 21, 23, 28, 42, 40, 39, 33, 32, 38, 37, 35, 34, 36, 41]]
theorem r21_heads.D {a0 r} (h : r21_heads.f a0 r) : D Tryz.prog X (.callH 48 [.agg (TGraph.lit a0)] [] (.val (.bool r)) []) := by
  unfold r21_heads.f at h
  refine .enter 135 0 fn48 rfl rfl rfl <| .seq <| .room 0 <| .reg0 rfl (.op 0 rfl (bxP (s := 10) (cs := (TGraph.lit a0)) rfl ⟨rfl, by decide, rfl⟩ rfl) <| .op 0 rfl (asV rfl) <| .nil0) <| .seq ?_
  refine .reg1 (e1 := listEnv [(1, .ptr 0 1 10 0 0), (3, i6 (a0.Procs.length : Int)), (4, i6 (a0.Of.length : Int))]) (H1 := [⟨10, [(TGraph.lit a0)], 0, none⟩]) rfl ?_ ?_
  · exact .drawM [(7, 4, i6 (a0.Of.length : Int)), (6, 3, i6 (a0.Procs.length : Int)), (5, 13, i6 (a0.Of.length : Int)), (4, 12, .rows (a0.Of.map (cInt .i64))), (3, 11, .ptr 0 1 10 0 5), (2, 10, i6 (a0.Procs.length : Int)), (1, 9, .rows (a0.Procs.map cStr)), (0, 8, .ptr 0 1 10 0 1)] [] [[], [0], [1, 0], [], [3], [4, 3], [2, 1, 0], [5, 4, 3, 6, 2, 1, 0]] (by rfl) (by rfl) (by rfl) (by exact ⟨oP (fun _ => faP fa29_1 rfl) rfl, oP (fun _ => ldP rfl sz22 ag22 rfl) rfl, oP (fun _ => lnR (l := a0.Procs) sl22 rfl) rfl, oP (fun _ => faP fa29_5 rfl) rfl, oP (fun _ => ldP rfl sz23 ag23 rfl) rfl, oP (fun _ => lnR (l := a0.Of) sl23 rfl) rfl, oP (fun _ => asV rfl) rfl, oP (fun _ => asV rfl) rfl, trivial⟩) _ (by exact ⟨.ptr rfl, .free rfl rfl, .free rfl rfl, trivial⟩) (by rfl)
  refine .seq <| .seq ?_
  obtain ⟨t3_34, g3_34, h⟩ := h
  refine .reg0 (e1 := listEnv [(1, .ptr 0 1 10 0 0), (3, i6 (a0.Procs.length : Int)), (4, i6 (a0.Of.length : Int)), (56, bo ((decide ((a0.Vars.length : Int) > 64)) || ((decide ((a0.Procs.length : Int) < 1)) || ((decide ((a0.Procs.length : Int) > 1024)) || ((!((a0.Entry.length : Int) == (a0.Procs.length : Int))) || ((!((a0.Exit.length : Int) == (a0.Procs.length : Int))) || ((decide ((a0.Of.length : Int) > 4096)) || ((!t3_34) || (decide ((a0.Sites.length : Int) > 1024))))))))))]) (H1 := [⟨10, [(TGraph.lit a0)], 0, none⟩]) rfl ?_ ?_
  · refine .o (faP fa29_0 rfl) <| .o (ldP rfl sz22 ag22 rfl) <| .o (lnR (l := a0.Vars) sl22 rfl) <| .o (gtI rfl rfl) <| .m rfl <| ?_
    by_cases c1 : (a0.Vars.length : Int) > 64
    · exact (.n rfl (dt c1) <| .n rfl (dt c1) <| .o (pkTV rfl (dt c1) rfl) <| .m rfl <| .n rfl rfl <| .n rfl rfl <| .o (pkTV rfl rfl rfl) <| .m rfl <| .n rfl rfl <| .n rfl rfl <| .n rfl rfl <| .n rfl rfl <| .n rfl rfl <| .o (pkTV rfl rfl rfl) <| .m rfl <| .n rfl rfl <| .n rfl rfl <| .n rfl rfl <| .n rfl rfl <| .n rfl rfl <| .o (pkTV rfl rfl rfl) <| .m rfl <| .n rfl rfl <| .n rfl rfl <| .o (pkTV rfl rfl rfl) <| .m rfl <| .n rfl rfl <| .n rfl rfl <| .n rfl rfl <| .n rfl rfl <| .n rfl rfl <| .o (pkTV rfl rfl rfl) <| .m rfl <| .n rfl rfl <| .n rfl rfl <| .n rfl rfl <| .n rfl rfl <| .o (pkTV rfl rfl rfl) <| .nilL _ ⟨.ptr rfl, .free rfl rfl, .free rfl rfl, cB rfl (mOrT (dt c1)), trivial⟩)
    · refine .g rfl (df c1) (mvV rfl) <| .g rfl (df c1) (ltI rfl rfl) <| .o (pkFV rfl (df c1) rfl) <| .m rfl <| ?_
      by_cases c2 : (a0.Procs.length : Int) < 1
      · exact (.n rfl (dt c2) <| .n rfl (dt c2) <| .o (pkTV rfl (dt c2) rfl) <| .m rfl <| .n rfl rfl <| .n rfl rfl <| .n rfl rfl <| .n rfl rfl <| .n rfl rfl <| .o (pkTV rfl rfl rfl) <| .m rfl <| .n rfl rfl <| .n rfl rfl <| .n rfl rfl <| .n rfl rfl <| .n rfl rfl <| .o (pkTV rfl rfl rfl) <| .m rfl <| .n rfl rfl <| .n rfl rfl <| .o (pkTV rfl rfl rfl) <| .m rfl <| .n rfl rfl <| .n rfl rfl <| .n rfl rfl <| .n rfl rfl <| .n rfl rfl <| .o (pkTV rfl rfl rfl) <| .m rfl <| .n rfl rfl <| .n rfl rfl <| .n rfl rfl <| .n rfl rfl <| .o (pkTV rfl rfl rfl) <| .nilL _ ⟨.ptr rfl, .free rfl rfl, .free rfl rfl, cB rfl (mOrF (df c1) (mOrT (dt c2))), trivial⟩)
      · refine .g rfl (df c2) (mvV rfl) <| .g rfl (df c2) (gtI rfl rfl) <| .o (pkFV rfl (df c2) rfl) <| .m rfl <| ?_
        by_cases c3 : (a0.Procs.length : Int) > 1024
        · exact (.n rfl (dt c3) <| .n rfl (dt c3) <| .n rfl (dt c3) <| .n rfl (dt c3) <| .n rfl (dt c3) <| .o (pkTV rfl (dt c3) rfl) <| .m rfl <| .n rfl rfl <| .n rfl rfl <| .n rfl rfl <| .n rfl rfl <| .n rfl rfl <| .o (pkTV rfl rfl rfl) <| .m rfl <| .n rfl rfl <| .n rfl rfl <| .o (pkTV rfl rfl rfl) <| .m rfl <| .n rfl rfl <| .n rfl rfl <| .n rfl rfl <| .n rfl rfl <| .n rfl rfl <| .o (pkTV rfl rfl rfl) <| .m rfl <| .n rfl rfl <| .n rfl rfl <| .n rfl rfl <| .n rfl rfl <| .o (pkTV rfl rfl rfl) <| .nilL _ ⟨.ptr rfl, .free rfl rfl, .free rfl rfl, cB rfl (mOrF (df c1) (mOrF (df c2) (mOrT (dt c3)))), trivial⟩)
        · refine .g rfl (df c3) (faP fa29_2 rfl) <| .g rfl (df c3) (ldP rfl sz23 ag23 rfl) <| .g rfl (df c3) (lnR (l := a0.Entry) sl23 rfl) <| .g rfl (df c3) (mvV rfl) <| .g rfl (df c3) (neI rfl rfl) <| .o (pkFV rfl (df c3) rfl) <| .m rfl <| ?_
          by_cases c4 : (a0.Entry.length : Int) = (a0.Procs.length : Int)
          · refine .g rfl (nf c4) (faP fa29_3 rfl) <| .g rfl (nf c4) (ldP rfl sz23 ag23 rfl) <| .g rfl (nf c4) (lnR (l := a0.Exit) sl23 rfl) <| .g rfl (nf c4) (mvV rfl) <| .g rfl (nf c4) (neI rfl rfl) <| .o (pkFV rfl (nf c4) rfl) <| .m rfl <| ?_
            by_cases c5 : (a0.Exit.length : Int) = (a0.Procs.length : Int)
            · refine .g rfl (nf c5) (mvV rfl) <| .g rfl (nf c5) (gtI rfl rfl) <| .o (pkFV rfl (nf c5) rfl) <| .m rfl <| ?_
              by_cases c6 : (a0.Of.length : Int) > 4096
              · exact (.n rfl (dt c6) <| .n rfl (dt c6) <| .n rfl (dt c6) <| .n rfl (dt c6) <| .n rfl (dt c6) <| .o (pkTV rfl (dt c6) rfl) <| .m rfl <| .n rfl rfl <| .n rfl rfl <| .n rfl rfl <| .n rfl rfl <| .o (pkTV rfl rfl rfl) <| .nilL _ ⟨.ptr rfl, .free rfl rfl, .free rfl rfl, cB rfl (mOrF (df c1) (mOrF (df c2) (mOrF (df c3) (mOrF (bnotF (bt c4)) (mOrF (bnotF (bt c5)) (mOrT (dt c6))))))), trivial⟩)
              · refine .g rfl (df c6) (faP fa29_4 rfl) <| .g rfl (df c6) (ldP rfl sz3 ag3 rfl) <| .g rfl (df c6) (mvV rfl) <| .callI (gT rfl rfl rfl (df c6)) (callee_of rfl go50 rfl) (.pure rfl rfl (r21_in.D (g3_34 c1 c2 c3 c4 c5 c6))) <| .g rfl (df c6) (notB rfl) <| .o (pkFV rfl (df c6) rfl) <| .m rfl <| ?_
                by_cases c7 : t3_34 = true
                · exact (.g rfl (bnotF c7) (faP fa29_7 rfl) <| .g rfl (bnotF c7) (ldP rfl sz25 ag25 rfl) <| .g rfl (bnotF c7) (lnR (l := a0.Sites) sl25 rfl) <| .g rfl (bnotF c7) (gtI rfl rfl) <| .o (pkFV rfl (bnotF c7) rfl) <| .nilL _ ⟨.ptr rfl, .free rfl rfl, .free rfl rfl, cB rfl (mOrF (df c1) (mOrF (df c2) (mOrF (df c3) (mOrF (bnotF (bt c4)) (mOrF (bnotF (bt c5)) (mOrF (df c6) (mOrF (bnotF c7) rfl))))))), trivial⟩)
                · exact (.n rfl (bnotT (nb c7)) <| .n rfl (bnotT (nb c7)) <| .n rfl (bnotT (nb c7)) <| .n rfl (bnotT (nb c7)) <| .o (pkTV rfl (bnotT (nb c7)) rfl) <| .nilL _ ⟨.ptr rfl, .free rfl rfl, .free rfl rfl, cB rfl (mOrF (df c1) (mOrF (df c2) (mOrF (df c3) (mOrF (bnotF (bt c4)) (mOrF (bnotF (bt c5)) (mOrF (df c6) (mOrT (bnotT (nb c7))))))))), trivial⟩)
            · exact (.n rfl (nt c5) <| .n rfl (nt c5) <| .o (pkTV rfl (nt c5) rfl) <| .m rfl <| .n rfl rfl <| .n rfl rfl <| .n rfl rfl <| .n rfl rfl <| .n rfl rfl <| .o (pkTV rfl rfl rfl) <| .m rfl <| .n rfl rfl <| .n rfl rfl <| .n rfl rfl <| .n rfl rfl <| .o (pkTV rfl rfl rfl) <| .nilL _ ⟨.ptr rfl, .free rfl rfl, .free rfl rfl, cB rfl (mOrF (df c1) (mOrF (df c2) (mOrF (df c3) (mOrF (bnotF (bt c4)) (mOrT (bnotT (bn c5))))))), trivial⟩)
          · exact (.n rfl (nt c4) <| .n rfl (nt c4) <| .n rfl (nt c4) <| .n rfl (nt c4) <| .n rfl (nt c4) <| .o (pkTV rfl (nt c4) rfl) <| .m rfl <| .n rfl rfl <| .n rfl rfl <| .o (pkTV rfl rfl rfl) <| .m rfl <| .n rfl rfl <| .n rfl rfl <| .n rfl rfl <| .n rfl rfl <| .n rfl rfl <| .o (pkTV rfl rfl rfl) <| .m rfl <| .n rfl rfl <| .n rfl rfl <| .n rfl rfl <| .n rfl rfl <| .o (pkTV rfl rfl rfl) <| .nilL _ ⟨.ptr rfl, .free rfl rfl, .free rfl rfl, cB rfl (mOrF (df c1) (mOrF (df c2) (mOrF (df c3) (mOrT (bnotT (bn c4)))))), trivial⟩)
  by_cases c8 : ((decide ((a0.Vars.length : Int) > 64)) || ((decide ((a0.Procs.length : Int) < 1)) || ((decide ((a0.Procs.length : Int) > 1024)) || ((!((a0.Entry.length : Int) == (a0.Procs.length : Int))) || ((!((a0.Exit.length : Int) == (a0.Procs.length : Int))) || ((decide ((a0.Of.length : Int) > 4096)) || ((!t3_34) || (decide ((a0.Sites.length : Int) > 1024))))))))) = true
  · rw [if_pos c8] at h
    refine .condT rfl c8 <| .seq <| .reg0 rfl (.op 0 rfl (asV rfl) <| .nil0) ?_
    replace h := h.symm
    subst h
    refine .kf [(2, bo false)] rfl rfl ?_
    exact .ret rfl
  · rw [if_neg c8] at h
    refine .condF rfl (nb c8) <| .skip <| .seq <| .seq <| .reg0 rfl (.op 0 rfl (asV rfl) <| .nil0) <| .block <| .keepL [0] [(1, .ptr 0 1 10 0 0), (3, i6 (a0.Procs.length : Int)), (4, i6 (a0.Of.length : Int)), (5, i6 0)] [⟨10, [(TGraph.lit a0)], 0, none⟩] (by decide) (by decide) ⟨.ptr rfl, .free rfl rfl, .free rfl rfl, .free rfl rfl, trivial⟩ ⟨⟨_, rfl, bcBox (all2_free rfl)⟩, trivial⟩ ?_
    obtain ⟨o1, hL1, h⟩ := h
    refine .loopB (r21_heads.b1 a0) (fun x1 => listEnv [(1, .ptr 0 1 10 0 0), (3, i6 (a0.Procs.length : Int)), (4, i6 (a0.Of.length : Int)), (5, i6 x1)]) (fun x1 => [⟨10, [(TGraph.lit a0)], 0, none⟩]) (fun _ => listEnv [(1, .ptr 0 1 10 0 0), (3, i6 (a0.Procs.length : Int)), (4, i6 (a0.Of.length : Int))]) (fun _ => [⟨10, [(TGraph.lit a0)], 0, none⟩]) hL1 (fun r_ => r = r_) ?_ ?_ ?_
    · rintro ⟨⟩ rfl
      try dsimp only [Fin.on] at h
      refine .seq <| .seq <| .reg0 rfl (.op 0 rfl (asV rfl) <| .nil0) <| .block <| .keepL [0] [(1, .ptr 0 1 10 0 0), (3, i6 (a0.Procs.length : Int)), (4, i6 (a0.Of.length : Int)), (6, i6 0)] [⟨10, [(TGraph.lit a0)], 0, none⟩] (by decide) (by decide) ⟨.ptr rfl, .free rfl rfl, .free rfl rfl, .free rfl rfl, trivial⟩ ⟨⟨_, rfl, bcBox (all2_free rfl)⟩, trivial⟩ ?_
      obtain ⟨o2, hL2, h⟩ := h
      refine .loopB (r21_heads.b2 a0) (fun x2 => listEnv [(1, .ptr 0 1 10 0 0), (3, i6 (a0.Procs.length : Int)), (4, i6 (a0.Of.length : Int)), (6, i6 x2)]) (fun x2 => [⟨10, [(TGraph.lit a0)], 0, none⟩]) (fun _ => listEnv [(1, .ptr 0 1 10 0 0), (3, i6 (a0.Procs.length : Int))]) (fun _ => [⟨10, [(TGraph.lit a0)], 0, none⟩]) hL2 (fun r_ => r = r_) ?_ ?_ ?_
      · rintro ⟨⟩ rfl
        try dsimp only [Fin.on] at h
        refine .seq <| .seq <| .reg0 rfl (.op 0 rfl (asV rfl) <| .nil0) <| .block <| .keepL [0] [(1, .ptr 0 1 10 0 0), (3, i6 (a0.Procs.length : Int)), (7, i6 0)] [⟨10, [(TGraph.lit a0)], 0, none⟩] (by decide) (by decide) ⟨.ptr rfl, .free rfl rfl, .free rfl rfl, trivial⟩ ⟨⟨_, rfl, bcBox (all2_free rfl)⟩, trivial⟩ ?_
        obtain ⟨o3, hL3, h⟩ := h
        refine .loopB (r21_heads.b3 a0) (fun x3 => listEnv [(1, .ptr 0 1 10 0 0), (3, i6 (a0.Procs.length : Int)), (7, i6 x3)]) (fun x3 => [⟨10, [(TGraph.lit a0)], 0, none⟩]) (fun _ => listEnv []) (fun _ => []) hL3 (fun r_ => r = r_) ?_ ?_ ?_
        · rintro ⟨⟩ rfl
          try dsimp only [Fin.on] at h
          refine .seq <| .reg0 rfl (.op 0 rfl (asV rfl) <| .nil0) ?_
          replace h := h.symm
          subst h
          refine .kf [(2, bo true)] rfl rfl ?_
          exact .ret rfl
        · rintro r_ rfl
          exact h
        · rintro x3 z3 h hn3 hx3 hr3
          dsimp only [r21_heads.b3] at h
          refine .seq <| .seq <| .reg0 rfl (.op 0 rfl (mvV rfl) <| .op 0 rfl (faP fa29_7 rfl) <| .op 0 rfl (ldP rfl sz25 ag25 rfl) <| .op 0 rfl (lnR (l := a0.Sites) sl25 rfl) <| .op 0 rfl (ltI rfl rfl) <| .nil0) ?_
          by_cases c34 : x3 < (a0.Sites.length : Int)
          · rw [if_pos c34] at h
            refine .condT rfl (dt c34) <| .skip <| .seq <| .block <| .seq ?_
            obtain ⟨g41_3, h⟩ := h
            obtain ⟨t41_7, g41_7, h⟩ := h
            refine .reg0 rfl (.o (faP fa29_7 rfl) <| .o (ldP rfl sz25 ag25 rfl) <| .m rfl <| .o (ixR (l := a0.Sites) (lit := TSite.lit) sl25 rfl rfl (fun _ => rfl) g41_3.1 g41_3.2) <| .o (faC fa70_1 rfl) <| .o (ldC rfl sz3 ag3 rfl) <| .m rfl <| .c rfl go50 rfl rfl rfl (r21_in.D g41_7) <| .o (notB rfl) <| .nil0) ?_
            by_cases c35 : t41_7 = true
            · rw [if_pos c35] at h
              refine .condF rfl (bnotF c35) <| .skip <| .inBlock <| .reg0 rfl (.op 0 rfl (mvV rfl) <| .op 0 rfl (addI rfl rfl) <| .op 0 rfl (asV rfl) <| .nil0) <| .keepL [0] [(1, .ptr 0 1 10 0 0), (3, i6 (a0.Procs.length : Int)), (7, i6 (IntKind.i64.wrap (x3 + 1)))] [⟨10, [(TGraph.lit a0)], 0, none⟩] (by decide) (by decide) ⟨.ptr rfl, .free rfl rfl, .free rfl rfl, trivial⟩ ⟨⟨_, rfl, bcBox (all2_free rfl)⟩, trivial⟩ ?_
              exact hn3 _ h
            · rw [if_neg c35] at h
              refine .condT rfl (bnotT (nb c35)) <| .seq <| .reg0 rfl (.op 0 rfl (asV rfl) <| .nil0) ?_
              have q9 := hr3 _ h
              replace q9 := q9.symm
              subst q9
              refine .kf [(2, bo false)] rfl rfl ?_
              exact .ret rfl
          · rw [if_neg c34] at h
            refine .condF rfl (df c34) <| .exit rfl <| .keepL [] [] [] (by decide) (by decide) trivial trivial ?_
            exact hx3 _ h
      · rintro r_ rfl
        exact h
      · rintro x2 z2 h hn2 hx2 hr2
        dsimp only [r21_heads.b2] at h
        refine .seq <| .seq <| .reg0 rfl (.op 0 rfl (mvV rfl) <| .op 0 rfl (mvV rfl) <| .op 0 rfl (ltI rfl rfl) <| .nil0) ?_
        by_cases c25 : x2 < (a0.Procs.length : Int)
        · rw [if_pos c25] at h
          refine .condT rfl (dt c25) <| .skip <| .seq <| .block <| .seq ?_
          obtain ⟨g28_3, h⟩ := h
          obtain ⟨t28_6, g28_6, h⟩ := h
          obtain ⟨g28_12, h⟩ := h
          obtain ⟨t28_15, g28_15, h⟩ := h
          obtain ⟨g28_24, h⟩ := h
          obtain ⟨g28_26, h⟩ := h
          obtain ⟨g28_37, h⟩ := h
          obtain ⟨g28_39, h⟩ := h
          refine .reg1 (e1 := listEnv [(1, .ptr 0 1 10 0 0), (3, i6 (a0.Procs.length : Int)), (4, i6 (a0.Of.length : Int)), (6, i6 x2), (118, bo ((!t28_6) || ((!t28_15) || ((!((rdl a0.Of (rdl a0.Entry x2)) == x2)) || ((rdl a0.Of (rdl a0.Exit x2)) != x2)))))]) (H1 := [⟨10, [(TGraph.lit a0)], 0, none⟩]) rfl ?_ ?_
          · by_cases c26 : t28_6 = true
            · by_cases c27 : t28_15 = true
              · by_cases c28 : (rdl a0.Of (rdl a0.Entry x2)) = x2
                · exact .drawM [(43, 118, bo ((rdl a0.Of (rdl a0.Exit x2)) != x2)), (42, 117, bo ((rdl a0.Of (rdl a0.Exit x2)) != x2)), (41, 116, i6 x2), (40, 115, i6 (rdl a0.Of (rdl a0.Exit x2))), (39, 114, .cptr ((cInt .i64) (rdl a0.Of (rdl a0.Exit x2))) 0), (38, 113, i6 (rdl a0.Exit x2)), (37, 112, .cptr ((cInt .i64) (rdl a0.Exit x2)) 0), (36, 111, i6 x2), (35, 110, .rows (a0.Exit.map (cInt .i64))), (34, 109, .ptr 0 1 10 0 3), (33, 108, .rows (a0.Of.map (cInt .i64))), (32, 107, .ptr 0 1 10 0 5), (31, 106, bo ((rdl a0.Of (rdl a0.Entry x2)) != x2)), (30, 105, bo ((rdl a0.Of (rdl a0.Entry x2)) != x2)), (29, 104, bo ((rdl a0.Of (rdl a0.Entry x2)) != x2)), (28, 103, i6 x2), (27, 102, i6 (rdl a0.Of (rdl a0.Entry x2))), (26, 101, .cptr ((cInt .i64) (rdl a0.Of (rdl a0.Entry x2))) 0), (25, 100, i6 (rdl a0.Entry x2)), (24, 99, .cptr ((cInt .i64) (rdl a0.Entry x2)) 0), (23, 98, i6 x2), (22, 97, .rows (a0.Entry.map (cInt .i64))), (21, 96, .ptr 0 1 10 0 2), (20, 95, .rows (a0.Of.map (cInt .i64))), (19, 94, .ptr 0 1 10 0 5), (18, 93, bo (!t28_15)), (17, 92, bo (!t28_15)), (16, 91, bo (!t28_15)), (15, 90, bo t28_15), (14, 89, i6 (a0.Of.length : Int)), (13, 88, i6 (rdl a0.Exit x2)), (12, 87, .cptr ((cInt .i64) (rdl a0.Exit x2)) 0), (11, 86, i6 x2), (10, 85, .rows (a0.Exit.map (cInt .i64))), (9, 84, .ptr 0 1 10 0 3), (8, 83, bo (!t28_6)), (7, 82, bo (!t28_6)), (6, 81, bo t28_6), (5, 80, i6 (a0.Of.length : Int)), (4, 79, i6 (rdl a0.Entry x2)), (3, 78, .cptr ((cInt .i64) (rdl a0.Entry x2)) 0), (2, 77, i6 x2), (1, 76, .rows (a0.Entry.map (cInt .i64))), (0, 75, .ptr 0 1 10 0 2)] [] GD_A0 (by rfl) (by rfl) (by rfl) (by exact ⟨oP (fun _ => faP fa29_2 rfl) rfl, oP (fun _ => ldP rfl sz23 ag23 rfl) rfl, oP (fun _ => mvV rfl) rfl, oP (fun _ => ixR (l := a0.Entry) (lit := (cInt .i64)) sl23 rfl rfl (fun _ => rfl) g28_3.1 g28_3.2) rfl, oP (fun _ => ldC rfl sz3 ag3 rfl) rfl, oP (fun _ => mvV rfl) rfl, fun S hS hD hn => .oneI hS hD hn rfl rfl (callee_of rfl go50 rfl) (.pure rfl rfl (r21_in.D g28_6)) rfl rfl rfl, oP (fun _ => notB rfl) rfl, oP (fun _ => mvV rfl) rfl, oG rfl (fun _ => rfl) (bnotF c26) (fun _ => faP fa29_3 rfl) rfl, oG rfl (fun _ => rfl) (bnotF c26) (fun _ => ldP rfl sz23 ag23 rfl) rfl, oG rfl (fun _ => rfl) (bnotF c26) (fun _ => mvV rfl) rfl, oG rfl (fun _ => rfl) (bnotF c26) (fun _ => ixR (l := a0.Exit) (lit := (cInt .i64)) sl23 rfl rfl (fun _ => rfl) (g28_12 c26).1 (g28_12 c26).2) rfl, oG rfl (fun _ => rfl) (bnotF c26) (fun _ => ldC rfl sz3 ag3 rfl) rfl, oG rfl (fun _ => rfl) (bnotF c26) (fun _ => mvV rfl) rfl, fun S hS hD hn => .oneI hS hD hn (gT rfl rfl rfl (bnotF c26)) rfl (callee_of rfl go50 rfl) (.pure rfl rfl (r21_in.D (g28_15 c26))) rfl rfl rfl, oG rfl (fun _ => rfl) (bnotF c26) (fun _ => notB rfl) rfl, oP (fun _ => pkFV rfl (bnotF c26) rfl) rfl, oP (fun _ => mvV rfl) rfl, oG rfl (fun _ => rfl) (bnotF c27) (fun _ => faP fa29_5 rfl) rfl, oG rfl (fun _ => rfl) (bnotF c27) (fun _ => ldP rfl sz23 ag23 rfl) rfl, oG rfl (fun _ => rfl) (bnotF c27) (fun _ => faP fa29_2 rfl) rfl, oG rfl (fun _ => rfl) (bnotF c27) (fun _ => ldP rfl sz23 ag23 rfl) rfl, oG rfl (fun _ => rfl) (bnotF c27) (fun _ => mvV rfl) rfl, oG rfl (fun _ => rfl) (bnotF c27) (fun _ => ixR (l := a0.Entry) (lit := (cInt .i64)) sl23 rfl rfl (fun _ => rfl) (g28_24 c26 c27).1 (g28_24 c26 c27).2) rfl, oG rfl (fun _ => rfl) (bnotF c27) (fun _ => ldC rfl sz3 ag3 rfl) rfl, oG rfl (fun _ => rfl) (bnotF c27) (fun _ => ixR (l := a0.Of) (lit := (cInt .i64)) sl23 rfl rfl (fun _ => rfl) (g28_26 c26 c27).1 (g28_26 c26 c27).2) rfl, oG rfl (fun _ => rfl) (bnotF c27) (fun _ => ldC rfl sz3 ag3 rfl) rfl, oG rfl (fun _ => rfl) (bnotF c27) (fun _ => mvV rfl) rfl, oG rfl (fun _ => rfl) (bnotF c27) (fun _ => neI rfl rfl) rfl, oP (fun _ => pkFV rfl (bnotF c27) rfl) rfl, oP (fun _ => mvV rfl) rfl, oG rfl (fun _ => rfl) (nf c28) (fun _ => faP fa29_5 rfl) rfl, oG rfl (fun _ => rfl) (nf c28) (fun _ => ldP rfl sz23 ag23 rfl) rfl, oG rfl (fun _ => rfl) (nf c28) (fun _ => faP fa29_3 rfl) rfl, oG rfl (fun _ => rfl) (nf c28) (fun _ => ldP rfl sz23 ag23 rfl) rfl, oG rfl (fun _ => rfl) (nf c28) (fun _ => mvV rfl) rfl, oG rfl (fun _ => rfl) (nf c28) (fun _ => ixR (l := a0.Exit) (lit := (cInt .i64)) sl23 rfl rfl (fun _ => rfl) (g28_37 c26 c27 c28).1 (g28_37 c26 c27 c28).2) rfl, oG rfl (fun _ => rfl) (nf c28) (fun _ => ldC rfl sz3 ag3 rfl) rfl, oG rfl (fun _ => rfl) (nf c28) (fun _ => ixR (l := a0.Of) (lit := (cInt .i64)) sl23 rfl rfl (fun _ => rfl) (g28_39 c26 c27 c28).1 (g28_39 c26 c27 c28).2) rfl, oG rfl (fun _ => rfl) (nf c28) (fun _ => ldC rfl sz3 ag3 rfl) rfl, oG rfl (fun _ => rfl) (nf c28) (fun _ => mvV rfl) rfl, oG rfl (fun _ => rfl) (nf c28) (fun _ => neI rfl rfl) rfl, oP (fun _ => pkFV rfl (nf c28) rfl) rfl, trivial⟩) _ (by exact ⟨.ptr rfl, .free rfl rfl, .free rfl rfl, .free rfl rfl, cB rfl (mOrF (bnotF c26) (mOrF (bnotF c27) (mOrF (bnotF (bt c28)) rfl))), trivial⟩) (by rfl)
                · exact .drawM [(43, 118, bo true), (42, 117, und), (41, 116, und), (40, 115, und), (39, 114, und), (38, 113, und), (37, 112, und), (36, 111, und), (35, 110, und), (34, 109, und), (33, 108, und), (32, 107, und), (31, 106, bo ((rdl a0.Of (rdl a0.Entry x2)) != x2)), (30, 105, bo ((rdl a0.Of (rdl a0.Entry x2)) != x2)), (29, 104, bo ((rdl a0.Of (rdl a0.Entry x2)) != x2)), (28, 103, i6 x2), (27, 102, i6 (rdl a0.Of (rdl a0.Entry x2))), (26, 101, .cptr ((cInt .i64) (rdl a0.Of (rdl a0.Entry x2))) 0), (25, 100, i6 (rdl a0.Entry x2)), (24, 99, .cptr ((cInt .i64) (rdl a0.Entry x2)) 0), (23, 98, i6 x2), (22, 97, .rows (a0.Entry.map (cInt .i64))), (21, 96, .ptr 0 1 10 0 2), (20, 95, .rows (a0.Of.map (cInt .i64))), (19, 94, .ptr 0 1 10 0 5), (18, 93, bo (!t28_15)), (17, 92, bo (!t28_15)), (16, 91, bo (!t28_15)), (15, 90, bo t28_15), (14, 89, i6 (a0.Of.length : Int)), (13, 88, i6 (rdl a0.Exit x2)), (12, 87, .cptr ((cInt .i64) (rdl a0.Exit x2)) 0), (11, 86, i6 x2), (10, 85, .rows (a0.Exit.map (cInt .i64))), (9, 84, .ptr 0 1 10 0 3), (8, 83, bo (!t28_6)), (7, 82, bo (!t28_6)), (6, 81, bo t28_6), (5, 80, i6 (a0.Of.length : Int)), (4, 79, i6 (rdl a0.Entry x2)), (3, 78, .cptr ((cInt .i64) (rdl a0.Entry x2)) 0), (2, 77, i6 x2), (1, 76, .rows (a0.Entry.map (cInt .i64))), (0, 75, .ptr 0 1 10 0 2)] [] GD_A0 (by rfl) (by rfl) (by rfl) (by exact ⟨oP (fun _ => faP fa29_2 rfl) rfl, oP (fun _ => ldP rfl sz23 ag23 rfl) rfl, oP (fun _ => mvV rfl) rfl, oP (fun _ => ixR (l := a0.Entry) (lit := (cInt .i64)) sl23 rfl rfl (fun _ => rfl) g28_3.1 g28_3.2) rfl, oP (fun _ => ldC rfl sz3 ag3 rfl) rfl, oP (fun _ => mvV rfl) rfl, fun S hS hD hn => .oneI hS hD hn rfl rfl (callee_of rfl go50 rfl) (.pure rfl rfl (r21_in.D g28_6)) rfl rfl rfl, oP (fun _ => notB rfl) rfl, oP (fun _ => mvV rfl) rfl, oG rfl (fun _ => rfl) (bnotF c26) (fun _ => faP fa29_3 rfl) rfl, oG rfl (fun _ => rfl) (bnotF c26) (fun _ => ldP rfl sz23 ag23 rfl) rfl, oG rfl (fun _ => rfl) (bnotF c26) (fun _ => mvV rfl) rfl, oG rfl (fun _ => rfl) (bnotF c26) (fun _ => ixR (l := a0.Exit) (lit := (cInt .i64)) sl23 rfl rfl (fun _ => rfl) (g28_12 c26).1 (g28_12 c26).2) rfl, oG rfl (fun _ => rfl) (bnotF c26) (fun _ => ldC rfl sz3 ag3 rfl) rfl, oG rfl (fun _ => rfl) (bnotF c26) (fun _ => mvV rfl) rfl, fun S hS hD hn => .oneI hS hD hn (gT rfl rfl rfl (bnotF c26)) rfl (callee_of rfl go50 rfl) (.pure rfl rfl (r21_in.D (g28_15 c26))) rfl rfl rfl, oG rfl (fun _ => rfl) (bnotF c26) (fun _ => notB rfl) rfl, oP (fun _ => pkFV rfl (bnotF c26) rfl) rfl, oP (fun _ => mvV rfl) rfl, oG rfl (fun _ => rfl) (bnotF c27) (fun _ => faP fa29_5 rfl) rfl, oG rfl (fun _ => rfl) (bnotF c27) (fun _ => ldP rfl sz23 ag23 rfl) rfl, oG rfl (fun _ => rfl) (bnotF c27) (fun _ => faP fa29_2 rfl) rfl, oG rfl (fun _ => rfl) (bnotF c27) (fun _ => ldP rfl sz23 ag23 rfl) rfl, oG rfl (fun _ => rfl) (bnotF c27) (fun _ => mvV rfl) rfl, oG rfl (fun _ => rfl) (bnotF c27) (fun _ => ixR (l := a0.Entry) (lit := (cInt .i64)) sl23 rfl rfl (fun _ => rfl) (g28_24 c26 c27).1 (g28_24 c26 c27).2) rfl, oG rfl (fun _ => rfl) (bnotF c27) (fun _ => ldC rfl sz3 ag3 rfl) rfl, oG rfl (fun _ => rfl) (bnotF c27) (fun _ => ixR (l := a0.Of) (lit := (cInt .i64)) sl23 rfl rfl (fun _ => rfl) (g28_26 c26 c27).1 (g28_26 c26 c27).2) rfl, oG rfl (fun _ => rfl) (bnotF c27) (fun _ => ldC rfl sz3 ag3 rfl) rfl, oG rfl (fun _ => rfl) (bnotF c27) (fun _ => mvV rfl) rfl, oG rfl (fun _ => rfl) (bnotF c27) (fun _ => neI rfl rfl) rfl, oP (fun _ => pkFV rfl (bnotF c27) rfl) rfl, oP (fun _ => mvV rfl) rfl, oN rfl (fun _ => rfl) (nt c28) rfl, oN rfl (fun _ => rfl) (nt c28) rfl, oN rfl (fun _ => rfl) (nt c28) rfl, oN rfl (fun _ => rfl) (nt c28) rfl, oN rfl (fun _ => rfl) (nt c28) rfl, oN rfl (fun _ => rfl) (nt c28) rfl, oN rfl (fun _ => rfl) (nt c28) rfl, oN rfl (fun _ => rfl) (nt c28) rfl, oN rfl (fun _ => rfl) (nt c28) rfl, oN rfl (fun _ => rfl) (nt c28) rfl, oN rfl (fun _ => rfl) (nt c28) rfl, oP (fun _ => pkTV rfl (nt c28) rfl) rfl, trivial⟩) _ (by exact ⟨.ptr rfl, .free rfl rfl, .free rfl rfl, .free rfl rfl, cB rfl (mOrF (bnotF c26) (mOrF (bnotF c27) (mOrT (bnotT (bn c28))))), trivial⟩) (by rfl)
              · exact .drawM [(43, 118, bo true), (42, 117, und), (41, 116, und), (40, 115, und), (39, 114, und), (38, 113, und), (37, 112, und), (36, 111, und), (35, 110, und), (34, 109, und), (33, 108, und), (32, 107, und), (31, 106, bo true), (30, 105, bo true), (29, 104, und), (28, 103, und), (27, 102, und), (26, 101, und), (25, 100, und), (24, 99, und), (23, 98, und), (22, 97, und), (21, 96, und), (20, 95, und), (19, 94, und), (18, 93, bo (!t28_15)), (17, 92, bo (!t28_15)), (16, 91, bo (!t28_15)), (15, 90, bo t28_15), (14, 89, i6 (a0.Of.length : Int)), (13, 88, i6 (rdl a0.Exit x2)), (12, 87, .cptr ((cInt .i64) (rdl a0.Exit x2)) 0), (11, 86, i6 x2), (10, 85, .rows (a0.Exit.map (cInt .i64))), (9, 84, .ptr 0 1 10 0 3), (8, 83, bo (!t28_6)), (7, 82, bo (!t28_6)), (6, 81, bo t28_6), (5, 80, i6 (a0.Of.length : Int)), (4, 79, i6 (rdl a0.Entry x2)), (3, 78, .cptr ((cInt .i64) (rdl a0.Entry x2)) 0), (2, 77, i6 x2), (1, 76, .rows (a0.Entry.map (cInt .i64))), (0, 75, .ptr 0 1 10 0 2)] [] GD_A0 (by rfl) (by rfl) (by rfl) (by exact ⟨oP (fun _ => faP fa29_2 rfl) rfl, oP (fun _ => ldP rfl sz23 ag23 rfl) rfl, oP (fun _ => mvV rfl) rfl, oP (fun _ => ixR (l := a0.Entry) (lit := (cInt .i64)) sl23 rfl rfl (fun _ => rfl) g28_3.1 g28_3.2) rfl, oP (fun _ => ldC rfl sz3 ag3 rfl) rfl, oP (fun _ => mvV rfl) rfl, fun S hS hD hn => .oneI hS hD hn rfl rfl (callee_of rfl go50 rfl) (.pure rfl rfl (r21_in.D g28_6)) rfl rfl rfl, oP (fun _ => notB rfl) rfl, oP (fun _ => mvV rfl) rfl, oG rfl (fun _ => rfl) (bnotF c26) (fun _ => faP fa29_3 rfl) rfl, oG rfl (fun _ => rfl) (bnotF c26) (fun _ => ldP rfl sz23 ag23 rfl) rfl, oG rfl (fun _ => rfl) (bnotF c26) (fun _ => mvV rfl) rfl, oG rfl (fun _ => rfl) (bnotF c26) (fun _ => ixR (l := a0.Exit) (lit := (cInt .i64)) sl23 rfl rfl (fun _ => rfl) (g28_12 c26).1 (g28_12 c26).2) rfl, oG rfl (fun _ => rfl) (bnotF c26) (fun _ => ldC rfl sz3 ag3 rfl) rfl, oG rfl (fun _ => rfl) (bnotF c26) (fun _ => mvV rfl) rfl, fun S hS hD hn => .oneI hS hD hn (gT rfl rfl rfl (bnotF c26)) rfl (callee_of rfl go50 rfl) (.pure rfl rfl (r21_in.D (g28_15 c26))) rfl rfl rfl, oG rfl (fun _ => rfl) (bnotF c26) (fun _ => notB rfl) rfl, oP (fun _ => pkFV rfl (bnotF c26) rfl) rfl, oP (fun _ => mvV rfl) rfl, oN rfl (fun _ => rfl) (bnotT (nb c27)) rfl, oN rfl (fun _ => rfl) (bnotT (nb c27)) rfl, oN rfl (fun _ => rfl) (bnotT (nb c27)) rfl, oN rfl (fun _ => rfl) (bnotT (nb c27)) rfl, oN rfl (fun _ => rfl) (bnotT (nb c27)) rfl, oN rfl (fun _ => rfl) (bnotT (nb c27)) rfl, oN rfl (fun _ => rfl) (bnotT (nb c27)) rfl, oN rfl (fun _ => rfl) (bnotT (nb c27)) rfl, oN rfl (fun _ => rfl) (bnotT (nb c27)) rfl, oN rfl (fun _ => rfl) (bnotT (nb c27)) rfl, oN rfl (fun _ => rfl) (bnotT (nb c27)) rfl, oP (fun _ => pkTV rfl (bnotT (nb c27)) rfl) rfl, oP (fun _ => mvV rfl) rfl, oN rfl (fun _ => rfl) rfl rfl, oN rfl (fun _ => rfl) rfl rfl, oN rfl (fun _ => rfl) rfl rfl, oN rfl (fun _ => rfl) rfl rfl, oN rfl (fun _ => rfl) rfl rfl, oN rfl (fun _ => rfl) rfl rfl, oN rfl (fun _ => rfl) rfl rfl, oN rfl (fun _ => rfl) rfl rfl, oN rfl (fun _ => rfl) rfl rfl, oN rfl (fun _ => rfl) rfl rfl, oN rfl (fun _ => rfl) rfl rfl, oP (fun _ => pkTV rfl rfl rfl) rfl, trivial⟩) _ (by exact ⟨.ptr rfl, .free rfl rfl, .free rfl rfl, .free rfl rfl, cB rfl (mOrF (bnotF c26) (mOrT (bnotT (nb c27)))), trivial⟩) (by rfl)
            · exact .drawM [(43, 118, bo true), (42, 117, und), (41, 116, und), (40, 115, und), (39, 114, und), (38, 113, und), (37, 112, und), (36, 111, und), (35, 110, und), (34, 109, und), (33, 108, und), (32, 107, und), (31, 106, bo true), (30, 105, bo true), (29, 104, und), (28, 103, und), (27, 102, und), (26, 101, und), (25, 100, und), (24, 99, und), (23, 98, und), (22, 97, und), (21, 96, und), (20, 95, und), (19, 94, und), (18, 93, bo true), (17, 92, bo true), (16, 91, und), (15, 90, und), (14, 89, und), (13, 88, und), (12, 87, und), (11, 86, und), (10, 85, und), (9, 84, und), (8, 83, bo (!t28_6)), (7, 82, bo (!t28_6)), (6, 81, bo t28_6), (5, 80, i6 (a0.Of.length : Int)), (4, 79, i6 (rdl a0.Entry x2)), (3, 78, .cptr ((cInt .i64) (rdl a0.Entry x2)) 0), (2, 77, i6 x2), (1, 76, .rows (a0.Entry.map (cInt .i64))), (0, 75, .ptr 0 1 10 0 2)] [] GD_A0 (by rfl) (by rfl) (by rfl) (by exact ⟨oP (fun _ => faP fa29_2 rfl) rfl, oP (fun _ => ldP rfl sz23 ag23 rfl) rfl, oP (fun _ => mvV rfl) rfl, oP (fun _ => ixR (l := a0.Entry) (lit := (cInt .i64)) sl23 rfl rfl (fun _ => rfl) g28_3.1 g28_3.2) rfl, oP (fun _ => ldC rfl sz3 ag3 rfl) rfl, oP (fun _ => mvV rfl) rfl, fun S hS hD hn => .oneI hS hD hn rfl rfl (callee_of rfl go50 rfl) (.pure rfl rfl (r21_in.D g28_6)) rfl rfl rfl, oP (fun _ => notB rfl) rfl, oP (fun _ => mvV rfl) rfl, oN rfl (fun _ => rfl) (bnotT (nb c26)) rfl, oN rfl (fun _ => rfl) (bnotT (nb c26)) rfl, oN rfl (fun _ => rfl) (bnotT (nb c26)) rfl, oN rfl (fun _ => rfl) (bnotT (nb c26)) rfl, oN rfl (fun _ => rfl) (bnotT (nb c26)) rfl, oN rfl (fun _ => rfl) (bnotT (nb c26)) rfl, oN rfl (fun _ => rfl) (bnotT (nb c26)) rfl, oN rfl (fun _ => rfl) (bnotT (nb c26)) rfl, oP (fun _ => pkTV rfl (bnotT (nb c26)) rfl) rfl, oP (fun _ => mvV rfl) rfl, oN rfl (fun _ => rfl) rfl rfl, oN rfl (fun _ => rfl) rfl rfl, oN rfl (fun _ => rfl) rfl rfl, oN rfl (fun _ => rfl) rfl rfl, oN rfl (fun _ => rfl) rfl rfl, oN rfl (fun _ => rfl) rfl rfl, oN rfl (fun _ => rfl) rfl rfl, oN rfl (fun _ => rfl) rfl rfl, oN rfl (fun _ => rfl) rfl rfl, oN rfl (fun _ => rfl) rfl rfl, oN rfl (fun _ => rfl) rfl rfl, oP (fun _ => pkTV rfl rfl rfl) rfl, oP (fun _ => mvV rfl) rfl, oN rfl (fun _ => rfl) rfl rfl, oN rfl (fun _ => rfl) rfl rfl, oN rfl (fun _ => rfl) rfl rfl, oN rfl (fun _ => rfl) rfl rfl, oN rfl (fun _ => rfl) rfl rfl, oN rfl (fun _ => rfl) rfl rfl, oN rfl (fun _ => rfl) rfl rfl, oN rfl (fun _ => rfl) rfl rfl, oN rfl (fun _ => rfl) rfl rfl, oN rfl (fun _ => rfl) rfl rfl, oN rfl (fun _ => rfl) rfl rfl, oP (fun _ => pkTV rfl rfl rfl) rfl, trivial⟩) _ (by exact ⟨.ptr rfl, .free rfl rfl, .free rfl rfl, .free rfl rfl, cB rfl (mOrT (bnotT (nb c26))), trivial⟩) (by rfl)
          by_cases c29 : ((!t28_6) || ((!t28_15) || ((!((rdl a0.Of (rdl a0.Entry x2)) == x2)) || ((rdl a0.Of (rdl a0.Exit x2)) != x2)))) = true
          · rw [if_pos c29] at h
            refine .condT rfl c29 <| .seq <| .reg0 rfl (.op 0 rfl (asV rfl) <| .nil0) ?_
            have q6 := hr2 _ h
            replace q6 := q6.symm
            subst q6
            refine .kf [(2, bo false)] rfl rfl ?_
            exact .ret rfl
          · rw [if_neg c29] at h
            refine .condF rfl (nb c29) <| .skip <| .inBlock <| .reg0 rfl (.op 0 rfl (mvV rfl) <| .op 0 rfl (addI rfl rfl) <| .op 0 rfl (asV rfl) <| .nil0) <| .keepL [0] [(1, .ptr 0 1 10 0 0), (3, i6 (a0.Procs.length : Int)), (4, i6 (a0.Of.length : Int)), (6, i6 (IntKind.i64.wrap (x2 + 1)))] [⟨10, [(TGraph.lit a0)], 0, none⟩] (by decide) (by decide) ⟨.ptr rfl, .free rfl rfl, .free rfl rfl, .free rfl rfl, trivial⟩ ⟨⟨_, rfl, bcBox (all2_free rfl)⟩, trivial⟩ ?_
            exact hn2 _ h
        · rw [if_neg c25] at h
          refine .condF rfl (df c25) <| .exit rfl <| .keepL [0] [(1, .ptr 0 1 10 0 0), (3, i6 (a0.Procs.length : Int))] [⟨10, [(TGraph.lit a0)], 0, none⟩] (by decide) (by decide) ⟨.ptr rfl, .free rfl rfl, trivial⟩ ⟨⟨_, rfl, bcBox (all2_free rfl)⟩, trivial⟩ ?_
          exact hx2 _ h
    · rintro r_ rfl
      exact h
    · rintro x1 z1 h hn1 hx1 hr1
      dsimp only [r21_heads.b1] at h
      refine .seq <| .seq <| .reg0 rfl (.op 0 rfl (mvV rfl) <| .op 0 rfl (mvV rfl) <| .op 0 rfl (ltI rfl rfl) <| .nil0) ?_
      by_cases c13 : x1 < (a0.Of.length : Int)
      · rw [if_pos c13] at h
        refine .condT rfl (dt c13) <| .skip <| .seq <| .block <| .seq ?_
        obtain ⟨g15_3, h⟩ := h
        obtain ⟨t15_6, g15_6, h⟩ := h
        refine .reg0 rfl (.o (faP fa29_5 rfl) <| .o (ldP rfl sz23 ag23 rfl) <| .m rfl <| .o (ixR (l := a0.Of) (lit := (cInt .i64)) sl23 rfl rfl (fun _ => rfl) g15_3.1 g15_3.2) <| .o (ldC rfl sz3 ag3 rfl) <| .m rfl <| .c rfl go50 rfl rfl rfl (r21_in.D g15_6) <| .o (notB rfl) <| .nil0) ?_
        by_cases c14 : t15_6 = true
        · rw [if_pos c14] at h
          refine .condF rfl (bnotF c14) <| .skip <| .inBlock <| .reg0 rfl (.op 0 rfl (mvV rfl) <| .op 0 rfl (addI rfl rfl) <| .op 0 rfl (asV rfl) <| .nil0) <| .keepL [0] [(1, .ptr 0 1 10 0 0), (3, i6 (a0.Procs.length : Int)), (4, i6 (a0.Of.length : Int)), (5, i6 (IntKind.i64.wrap (x1 + 1)))] [⟨10, [(TGraph.lit a0)], 0, none⟩] (by decide) (by decide) ⟨.ptr rfl, .free rfl rfl, .free rfl rfl, .free rfl rfl, trivial⟩ ⟨⟨_, rfl, bcBox (all2_free rfl)⟩, trivial⟩ ?_
          exact hn1 _ h
        · rw [if_neg c14] at h
          refine .condT rfl (bnotT (nb c14)) <| .seq <| .reg0 rfl (.op 0 rfl (asV rfl) <| .nil0) ?_
          have q3 := hr1 _ h
          replace q3 := q3.symm
          subst q3
          refine .kf [(2, bo false)] rfl rfl ?_
          exact .ret rfl
      · rw [if_neg c13] at h
        refine .condF rfl (df c13) <| .exit rfl <| .keepL [0] [(1, .ptr 0 1 10 0 0), (3, i6 (a0.Procs.length : Int)), (4, i6 (a0.Of.length : Int))] [⟨10, [(TGraph.lit a0)], 0, none⟩] (by decide) (by decide) ⟨.ptr rfl, .free rfl rfl, .free rfl rfl, trivial⟩ ⟨⟨_, rfl, bcBox (all2_free rfl)⟩, trivial⟩ ?_
        exact hx1 _ h
end Go.RM.Tryz
