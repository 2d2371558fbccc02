/- GD, for the statement FramesValues: what it needs, no more. -/
import Derived.Test.YtcogffeinodfaaaDoorZFramesValuesGC
set_option linter.unusedVariables false
set_option maxRecDepth 8000
set_option maxHeartbeats 4000000
namespace Go.RM.Tryd
open Go.RM Go.Proofs
variable {X : FuncId → List PV → Heap → PV → Heap → Prop}
def slices_IndexFunc_Sink.b1 (a0 : List TSink) (a1 : TSink → Bool → Prop) : Int → Rnd Int Unit Int → Prop := fun x1 z1 => if x1 < (a0.length : Int) then (((InR x1 a0.length)) ∧ ∃ t15_5 : Bool, (a1 (rdl a0 x1) t15_5) ∧ if t15_5 = true then (z1 = .ret x1) else (z1 = .next (IntKind.i64.wrap (x1 + 1)))) else (z1 = .exit ())
def slices_IndexFunc_Sink.f (a0 : List TSink) (a1 : TSink → Bool → Prop) (r : Int) : Prop :=
  ∃ o1 : Fin Unit Int, Loop (slices_IndexFunc_Sink.b1 a0 a1) 0 o1 ∧ o1.on (fun _ => r = (-1)) (fun r_ => r = r_)
theorem slices_IndexFunc_Sink.D {a0 : List TSink} {a1 : TSink → Bool → Prop} {r : Int} {c1_ : FuncId} {k1_ : List PV} (hg1_ : isGo Tryd.prog c1_ = true) (hk1_ : PV.free deep (.clo c1_ k1_) = true) (hka1_ : k1_.all (PV.free deep) = true) (hq1_ : ∀ x0_ y_, a1 x0_ y_ → D Tryd.prog X (.callH c1_ ([.agg (TSink.lit x0_)] ++ k1_) [] (.val (.bool y_)) [])) (h : slices_IndexFunc_Sink.f a0 a1 r) : D Tryd.prog X (.callH 73 [.rows (a0.map TSink.cells), .clo c1_ k1_] [] (.val (.int .i64 r)) []) := by
  unfold slices_IndexFunc_Sink.f at h
  refine .enter 19 0 fn73 rfl rfl rfl <| .seq <| .reg0 rfl (.op 0 rfl (asV rfl) <| .nil0) <| .seq <| .seq <| .reg0 rfl (.op 0 rfl (mvR rfl) <| .op 0 rfl (lnR (l := a0) sl27 rfl) <| .op 0 rfl (mvV rfl) <| .nil0) <| .block <| .keepL [] [(0, .rows (a0.map TSink.cells)), (1, .clo c1_ k1_), (7, i6 (a0.length : Int)), (8, i6 0)] [] (by decide) (by decide) ⟨.free rfl rfl, .free rfl hk1_, .free rfl rfl, .free rfl rfl, trivial⟩ trivial ?_
  obtain ⟨o1, hL1, h⟩ := h
  refine .loopB (slices_IndexFunc_Sink.b1 a0 a1) (fun x1 => listEnv [(0, .rows (a0.map TSink.cells)), (1, .clo c1_ k1_), (7, i6 (a0.length : Int)), (8, i6 x1)]) (fun x1 => []) (fun _ => listEnv []) (fun _ => []) hL1 (fun r_ => r = r_) ?_ ?_ ?_
  · rintro ⟨⟩ rfl
    try dsimp only [Fin.on] at h
    refine .seq <| .reg0 rfl (.op 0 rfl (asV rfl) <| .nil0) ?_
    replace h := h.symm
    subst h
    refine .kf [(4, i6 (-1))] rfl rfl ?_
    exact .ret rfl
  · rintro r_ rfl
    exact h
  · rintro x1 z1 h hn1 hx1 hr1
    dsimp only [slices_IndexFunc_Sink.b1] at h
    refine .seq <| .reg0 rfl (.op 0 rfl (ltI rfl rfl) <| .nil0) <| .seq ?_
    by_cases c5 : x1 < (a0.length : Int)
    · rw [if_pos c5] at h
      refine .condT rfl (dt c5) <| .skip <| .seq <| .block <| .seq <| .reg0 rfl (.op 0 rfl (mvV rfl) <| .op 0 rfl (asV rfl) <| .nil0) <| .seq ?_
      obtain ⟨g15_3, h⟩ := h
      obtain ⟨t15_5, g15_5, h⟩ := h
      refine .reg0 rfl (.o (mvF rfl) <| .o (mvR rfl) <| .m rfl <| .o (ixR (l := a0) (lit := TSink.lit) sl27 rfl rfl (fun _ => rfl) g15_3.1 g15_3.2) <| .o (ldCG rfl sz74 ag74 rfl) <| .callI rfl (callee_of rfl hg1_ rfl) (.pure (allCons rfl hka1_) rfl (hq1_ _ _ g15_5)) <| .nil0) ?_
      by_cases c6 : t15_5 = true
      · rw [if_pos c6] at h
        refine .condT rfl c6 <| .seq <| .reg0 rfl (.op 0 rfl (mvV rfl) <| .op 0 rfl (asV rfl) <| .nil0) ?_
        have q3 := hr1 _ h
        replace q3 := q3.symm
        subst q3
        refine .kf [(4, i6 x1)] rfl rfl ?_
        exact .ret rfl
      · rw [if_neg c6] at h
        refine .condF rfl (nb c6) <| .skip <| .inBlock <| .reg0 rfl (.op 0 rfl (addI rfl rfl) <| .op 0 rfl (mvV rfl) <| .nil0) <| .k [(0, .rows (a0.map TSink.cells)), (1, .clo c1_ k1_), (7, i6 (a0.length : Int)), (8, i6 (IntKind.i64.wrap (x1 + 1)))] ⟨.free rfl rfl, .free rfl hk1_, .free rfl rfl, .free rfl rfl, trivial⟩ ?_
        exact hn1 _ h
    · rw [if_neg c5] at h
      refine .condF rfl (df c5) <| .exit rfl <| .keepL [] [] [] (by decide) (by decide) trivial trivial ?_
      exact hx1 _ h
def slices_ContainsFunc_Sink.f (a0 : List TSink) (a1 : TSink → Bool → Prop) (r : Bool) : Prop :=
  ∃ t2_2 : Int, (slices_IndexFunc_Sink.f a0 a1 t2_2) ∧ r = (decide (t2_2 ≥ 0))
theorem slices_ContainsFunc_Sink.D {a0 : List TSink} {a1 : TSink → Bool → Prop} {r : Bool} {c1_ : FuncId} {k1_ : List PV} (hg1_ : isGo Tryd.prog c1_ = true) (hk1_ : PV.free deep (.clo c1_ k1_) = true) (hka1_ : k1_.all (PV.free deep) = true) (hq1_ : ∀ x0_ y_, a1 x0_ y_ → D Tryd.prog X (.callH c1_ ([.agg (TSink.lit x0_)] ++ k1_) [] (.val (.bool y_)) [])) (h : slices_ContainsFunc_Sink.f a0 a1 r) : D Tryd.prog X (.callH 52 [.rows (a0.map TSink.cells), .clo c1_ k1_] [] (.val (.bool r)) []) := by
  unfold slices_ContainsFunc_Sink.f at h
  refine .enter 9 0 fn52 rfl rfl rfl <| .seq <| .reg0 rfl (.op 0 rfl (asV rfl) <| .nil0) <| .seq ?_
  obtain ⟨t2_2, g2_2, h⟩ := h
  refine .reg0 rfl (.o (mvR rfl) <| .o (mvF rfl) <| .callI rfl (callee_of rfl go73 rfl) (.pure (allCons rfl (allCons hk1_ rfl)) rfl (slices_IndexFunc_Sink.D hg1_ hk1_ hka1_ hq1_ g2_2)) <| .o (geI rfl rfl) <| .a rfl <| .nil0) ?_
  replace h := h.symm
  subst h
  refine .kf [(4, bo (decide (t2_2 ≥ 0)))] rfl rfl ?_
  exact .ret rfl
def graph_Check_2.f (a0 : TSink) (f0 : TGraph) (r : Bool) : Prop :=
  ∃ t2_5 : Bool, (graph_in.f a0.Node (f0.Of.length : Int) t2_5) ∧ ∃ t2_13 : Bool, ((t2_5 = true) → graph_in.f a0.X (f0.Vars.length : Int) t2_13) ∧ r = ((!t2_5) || (!t2_13))
theorem graph_Check_2.D {a0 f0 r} (h : graph_Check_2.f a0 f0 r) : D Tryd.prog X (.callH 53 [.agg (TSink.lit a0), .cptr (TGraph.lit f0) 0] [] (.val (.bool r)) []) := by
  unfold graph_Check_2.f at h
  refine .enter 20 0 fn53 rfl rfl rfl <| .seq <| .room 0 <| .reg0 rfl (.op 0 rfl (bxP (s := 2) (cs := (TSink.lit a0)) rfl ⟨rfl, by decide, rfl⟩ rfl) <| .op 0 rfl (asV rfl) <| .nil0) <| .seq ?_
  obtain ⟨t2_5, g2_5, h⟩ := h
  obtain ⟨t2_13, g2_13, h⟩ := h
  refine .reg0 (e1 := listEnv [(3, bo ((!t2_5) || (!t2_13)))]) (H1 := [⟨2, [(TSink.lit a0)], 0, none⟩]) rfl ?_ ?_
  · refine .o (faP fa74_1 rfl) <| .o (ldP rfl sz3 ag3 rfl) <| .o (faC fa29_5 rfl) <| .o (ldC rfl sz23 ag23 rfl) <| .o (lnR (l := f0.Of) sl23 rfl) <| .c rfl go51 rfl rfl rfl (graph_in.D g2_5) <| .o (notB rfl) <| .m rfl <| ?_
    by_cases c1 : t2_5 = true
    · exact (.g rfl (bnotF c1) (faP fa74_0 rfl) <| .g rfl (bnotF c1) (ldP rfl sz3 ag3 rfl) <| .g rfl (bnotF c1) (faC fa29_0 rfl) <| .g rfl (bnotF c1) (ldC rfl sz22 ag22 rfl) <| .g rfl (bnotF c1) (lnR (l := f0.Vars) sl22 rfl) <| .callI (gT rfl rfl rfl (bnotF c1)) (callee_of rfl go51 rfl) (.pure rfl rfl (graph_in.D (g2_13 c1))) <| .g rfl (bnotF c1) (notB rfl) <| .o (pkFV rfl (bnotF c1) rfl) <| .a rfl <| .nilL _ ⟨cB rfl (mOrF (bnotF c1) rfl), trivial⟩)
    · exact (.n rfl (bnotT (nb c1)) <| .n rfl (bnotT (nb c1)) <| .n rfl (bnotT (nb c1)) <| .n rfl (bnotT (nb c1)) <| .n rfl (bnotT (nb c1)) <| .n rfl (bnotT (nb c1)) <| .n rfl (bnotT (nb c1)) <| .o (pkTV rfl (bnotT (nb c1)) rfl) <| .a rfl <| .nilL _ ⟨cB rfl (mOrT (bnotT (nb c1))), trivial⟩)
  replace h := h.symm
  subst h
  refine .kf [(3, bo ((!t2_5) || (!t2_13)))] rfl rfl ?_
  exact .ret rfl
def graph_Check.j1 (x7 : Int) : (Bool × Int) → (Rnd ((Bool × Int × Int)) ((Bool × Int)) Int) → Prop := fun (x16, x17) z1 => z1 = .next (x16, x17, (IntKind.i64.wrap (x7 + 1)))
def graph_Check.b1 (a0 : TGraph) : (Bool × Int × Int) → Rnd ((Bool × Int × Int)) ((Bool × Int)) Int → Prop := fun (x5, x6, x7) z1 => if (x5 && (decide (x7 < (a0.Steps.length : Int)))) = true then (((InR x7 a0.Steps.length)) ∧ ∃ t46_2 : Bool, (graph_stepRight.f a0 (rdl a0.Steps x7) t46_2) ∧ if (rdl a0.Steps x7).Kind = 8 then (graph_Check.j1 x7 ((t46_2 && ((rdl a0.Steps x7).Site == x6)), (IntKind.i64.wrap (x6 + 1))) z1) else (graph_Check.j1 x7 (t46_2, x6) z1)) else (z1 = .exit (x5, x6))
def graph_Check.f (a0 : TGraph) (r : Int) : Prop :=
  ∃ t2_1 : Bool, (graph_procsRight.f a0 t2_1) ∧ ∃ o1 : Fin ((Bool × Int)) Int, Loop (graph_Check.b1 a0) (t2_1, 0, 0) o1 ∧ o1.on (fun (x12, x13) => ∃ t54_5 : Bool, (((x12 && (x13 == (a0.Sites.length : Int))) = true) → slices_ContainsFunc_Point.f a0.Points (fun x0_ y_ => graph_Check_1.f x0_ a0 y_) t54_5) ∧ ∃ t55_5 : Bool, ((((x12 && (x13 == (a0.Sites.length : Int))) && (!t54_5)) = true) → slices_ContainsFunc_Sink.f a0.Sinks (fun x0_ y_ => graph_Check_2.f x0_ a0 y_) t55_5) ∧ if (((x12 && (x13 == (a0.Sites.length : Int))) && (!t54_5)) && (!t55_5)) = true then (r = 0) else (r = 213)) (fun r_ => r = r_)
theorem graph_Check.D {a0 r} (h : graph_Check.f a0 r) : D Tryd.prog X (.callH 29 [.agg (TGraph.lit a0)] [] (.val (.int .i64 r)) []) := by
  unfold graph_Check.f at h
  refine .enter 65 0 fn29 rfl rfl rfl <| .seq <| .room 0 <| .reg0 rfl (.op 0 rfl (bxP (s := 10) (cs := (TGraph.lit a0)) rfl ⟨rfl, by decide, rfl⟩ rfl) <| .op 0 rfl (asV rfl) <| .nil0) <| .seq ?_
  obtain ⟨t2_1, g2_1, h⟩ := h
  refine .reg0 rfl (.o (ldG rfl sz29 ag29 rfl) <| .c rfl go47 rfl rfl rfl (graph_procsRight.D g2_1) <| .a rfl <| .nil0) <| .seq <| .reg0 rfl (.op 0 rfl (asV rfl) <| .nil0) <| .seq <| .seq <| .reg0 rfl (.op 0 rfl (asV rfl) <| .nil0) <| .block <| .keepL [0] [(1, .ptr 0 1 10 0 0), (3, bo t2_1), (4, i6 0), (5, i6 0)] [⟨10, [(TGraph.lit a0)], 0, none⟩] (by decide) (by decide) ⟨.ptr rfl, .free rfl rfl, .free rfl rfl, .free rfl rfl, trivial⟩ ⟨⟨_, rfl, bcBox (all2_free rfl)⟩, trivial⟩ ?_
  obtain ⟨o1, hL1, h⟩ := h
  refine .loopB (graph_Check.b1 a0) (fun (x5, x6, x7) => listEnv [(1, .ptr 0 1 10 0 0), (3, bo x5), (4, i6 x6), (5, i6 x7)]) (fun (x5, x6, x7) => [⟨10, [(TGraph.lit a0)], 0, none⟩]) (fun (x12, x13) => listEnv [(1, .ptr 0 1 10 0 0), (3, bo x12), (4, i6 x13)]) (fun (x12, x13) => [⟨10, [(TGraph.lit a0)], 0, none⟩]) hL1 (fun r_ => r = r_) ?_ ?_ ?_
  · rintro ⟨x12, x13⟩ rfl
    try dsimp only [Fin.on] at h
    refine .seq ?_
    refine .reg0 (e1 := listEnv [(1, .ptr 0 1 10 0 0), (3, bo (x12 && (x13 == (a0.Sites.length : Int))))]) (H1 := [⟨10, [(TGraph.lit a0)], 0, none⟩]) rfl ?_ ?_
    · refine .m rfl <| .m rfl <| ?_
      by_cases c31 : x12 = true
      · exact (.g rfl c31 (mvV rfl) <| .g rfl c31 (faP fa29_7 rfl) <| .g rfl c31 (ldP rfl sz25 ag25 rfl) <| .g rfl c31 (lnR (l := a0.Sites) sl25 rfl) <| .g rfl c31 (eqI rfl rfl) <| .o (pkTV rfl c31 rfl) <| .a rfl <| .nilL _ ⟨.ptr rfl, cB rfl (mAndT c31 rfl), trivial⟩)
      · exact (.n rfl (nb c31) <| .n rfl (nb c31) <| .n rfl (nb c31) <| .n rfl (nb c31) <| .n rfl (nb c31) <| .o (pkFV rfl (nb c31) rfl) <| .a rfl <| .nilL _ ⟨.ptr rfl, cB rfl (mAndF (nb c31)), trivial⟩)
    refine .seq ?_
    obtain ⟨t54_5, g54_5, h⟩ := h
    refine .reg0 (e1 := listEnv [(1, .ptr 0 1 10 0 0), (3, bo ((x12 && (x13 == (a0.Sites.length : Int))) && (!t54_5)))]) (H1 := [⟨10, [(TGraph.lit a0)], 0, none⟩]) rfl ?_ ?_
    · refine .m rfl <| .m rfl <| ?_
      by_cases c32 : (x12 && (x13 == (a0.Sites.length : Int))) = true
      · exact (.g rfl c32 (faP fa29_8 rfl) <| .g rfl c32 (ldP rfl sz26 ag26 rfl) <| .g rfl c32 (mkF rfl) <| .callI (gT rfl rfl rfl c32) (callee_of rfl go49 rfl) (.lendC (args' := [.rows (a0.Points.map TPoint.cells), .clo 50 [.cptr (TGraph.lit a0) 0]])  [0] false (.cons (.free rfl rfl) <| .cons (cClo (.cons (cFixP rfl rfl (.cons (.free rfl rfl) <| .cons (.free rfl rfl) <| .cons (.free rfl rfl) <| .cons (.free rfl rfl) <| .cons (.free rfl rfl) <| .cons (.free rfl rfl) <| .cons (.free rfl rfl) <| .cons (.free rfl rfl) <| .cons (.free rfl rfl) <| .cons (.free rfl rfl) <| .nil)) <| .nil)) <| .nil) (by decide) rfl rfl rfl rfl (slices_ContainsFunc_Point.D (k1_ := [.cptr (TGraph.lit a0) 0]) go50 rfl rfl (fun x0_ y_ h_ => graph_Check_1.D h_) (g54_5 c32))) <| .g rfl c32 (notB rfl) <| .o (pkTV rfl c32 rfl) <| .a rfl <| .nilL _ ⟨.ptr rfl, cB rfl (mAndT c32 rfl), trivial⟩)
      · exact (.n rfl (nb c32) <| .n rfl (nb c32) <| .n rfl (nb c32) <| .n rfl (nb c32) <| .n rfl (nb c32) <| .o (pkFV rfl (nb c32) rfl) <| .a rfl <| .nilL _ ⟨.ptr rfl, cB rfl (mAndF (nb c32)), trivial⟩)
    refine .seq ?_
    obtain ⟨t55_5, g55_5, h⟩ := h
    refine .reg0 (e1 := listEnv [(3, bo (((x12 && (x13 == (a0.Sites.length : Int))) && (!t54_5)) && (!t55_5)))]) (H1 := [⟨10, [(TGraph.lit a0)], 0, none⟩]) rfl ?_ ?_
    · refine .m rfl <| .m rfl <| ?_
      by_cases c33 : ((x12 && (x13 == (a0.Sites.length : Int))) && (!t54_5)) = true
      · exact (.g rfl c33 (faP fa29_9 rfl) <| .g rfl c33 (ldP rfl sz27 ag27 rfl) <| .g rfl c33 (mkF rfl) <| .callI (gT rfl rfl rfl c33) (callee_of rfl go52 rfl) (.lendC (args' := [.rows (a0.Sinks.map TSink.cells), .clo 53 [.cptr (TGraph.lit a0) 0]])  [0] false (.cons (.free rfl rfl) <| .cons (cClo (.cons (cFixP rfl rfl (.cons (.free rfl rfl) <| .cons (.free rfl rfl) <| .cons (.free rfl rfl) <| .cons (.free rfl rfl) <| .cons (.free rfl rfl) <| .cons (.free rfl rfl) <| .cons (.free rfl rfl) <| .cons (.free rfl rfl) <| .cons (.free rfl rfl) <| .cons (.free rfl rfl) <| .nil)) <| .nil)) <| .nil) (by decide) rfl rfl rfl rfl (slices_ContainsFunc_Sink.D (k1_ := [.cptr (TGraph.lit a0) 0]) go53 rfl rfl (fun x0_ y_ h_ => graph_Check_2.D h_) (g55_5 c33))) <| .g rfl c33 (notB rfl) <| .o (pkTV rfl c33 rfl) <| .a rfl <| .nilL _ ⟨cB rfl (mAndT c33 rfl), trivial⟩)
      · exact (.n rfl (nb c33) <| .n rfl (nb c33) <| .n rfl (nb c33) <| .n rfl (nb c33) <| .n rfl (nb c33) <| .o (pkFV rfl (nb c33) rfl) <| .a rfl <| .nilL _ ⟨cB rfl (mAndF (nb c33)), trivial⟩)
    refine .seq <| .seq <| .reg0 rfl (.op 0 rfl (mvV rfl) <| .op 0 rfl (notB rfl) <| .nil0) ?_
    by_cases c34 : (((x12 && (x13 == (a0.Sites.length : Int))) && (!t54_5)) && (!t55_5)) = true
    · rw [if_pos c34] at h
      refine .condF rfl (bnotF c34) <| .skip <| .seq <| .reg0 rfl (.op 0 rfl (asV rfl) <| .nil0) ?_
      replace h := h.symm
      subst h
      refine .kf [(2, i6 0)] rfl rfl ?_
      exact .ret rfl
    · rw [if_neg c34] at h
      refine .condT rfl (bnotT (nb c34)) <| .seq <| .reg0 rfl (.op 0 rfl (asV rfl) <| .nil0) ?_
      replace h := h.symm
      subst h
      refine .kf [(2, i6 213)] rfl rfl ?_
      exact .ret rfl
  · rintro r_ rfl
    exact h
  · rintro ⟨x5, x6, x7⟩ z1 h hn1 hx1 hr1
    dsimp only [graph_Check.b1] at h
    refine .seq <| .seq ?_
    refine .reg0 (e1 := listEnv [(1, .ptr 0 1 10 0 0), (3, bo x5), (4, i6 x6), (5, i6 x7), (16, bo (x5 && (decide (x7 < (a0.Steps.length : Int)))))]) (H1 := [⟨10, [(TGraph.lit a0)], 0, none⟩]) rfl ?_ ?_
    · refine .m rfl <| .m rfl <| ?_
      by_cases c21 : x5 = true
      · exact (.g rfl c21 (mvV rfl) <| .g rfl c21 (faP fa29_6 rfl) <| .g rfl c21 (ldP rfl sz24 ag24 rfl) <| .g rfl c21 (lnR (l := a0.Steps) sl24 rfl) <| .g rfl c21 (ltI rfl rfl) <| .o (pkTV rfl c21 rfl) <| .nilL _ ⟨.ptr rfl, .free rfl rfl, .free rfl rfl, .free rfl rfl, cB rfl (mAndT c21 rfl), trivial⟩)
      · exact (.n rfl (nb c21) <| .n rfl (nb c21) <| .n rfl (nb c21) <| .n rfl (nb c21) <| .n rfl (nb c21) <| .o (pkFV rfl (nb c21) rfl) <| .nilL _ ⟨.ptr rfl, .free rfl rfl, .free rfl rfl, .free rfl rfl, cB rfl (mAndF (nb c21)), trivial⟩)
    by_cases c22 : (x5 && (decide (x7 < (a0.Steps.length : Int)))) = true
    · rw [if_pos c22] at h
      refine .condT rfl c22 <| .skip <| .seq <| .block <| .seq ?_
      obtain ⟨g45_3, h⟩ := h
      refine .room 0 <| .reg0 rfl (.op 0 rfl (faP fa29_6 rfl) <| .op 0 rfl (ldP rfl sz24 ag24 rfl) <| .op 0 rfl (mvV rfl) <| .op 0 rfl (ixR (l := a0.Steps) (lit := TStep.lit) sl24 rfl rfl (fun _ => rfl) g45_3.1 g45_3.2) <| .op 0 rfl (ldCG rfl sz47 ag47 rfl) <| .op 1 rfl (alP (s := 7) ze47 ⟨rfl, by decide, rfl⟩ rfl) <| .op 0 rfl (stB (cs0 := [i6 0, i6 0, i6 0, i6 0, i6 0, i6 0, i6 0]) (cs := (TStep.lit (rdl a0.Steps x7))) (cs1 := (TStep.lit (rdl a0.Steps x7))) rfl rfl sz47 rfl ⟨Nat.le_of_ble_eq_true rfl, rfl⟩ rfl) <| .nil0) ?_
      refine .seq ?_
      obtain ⟨t46_2, g46_2, h⟩ := h
      refine .reg0 rfl (.o (ldG rfl sz29 ag29 rfl) <| .o (ldG rfl sz47 ag47 rfl) <| .c rfl go48 rfl rfl rfl (graph_stepRight.D g46_2) <| .a rfl <| .nil0) <| .seq <| .reg0 rfl (.op 0 rfl (faP fa47_2 rfl) <| .op 0 rfl (ldP rfl sz45 ag45 rfl) <| .op 0 rfl (eqI rfl rfl) <| .nil0) ?_
      refine .consJ (fun s_ => graph_Check.j1 x7 s_ z1) (fun (x16, x17) => listEnv [(1, .ptr 0 1 10 0 0), (3, bo x16), (4, i6 x17), (5, i6 x7)]) (fun (x16, x17) => [⟨10, [(TGraph.lit a0)], 0, none⟩]) ?_ fun hJ1 => ?_
      · rintro ⟨x16, x17⟩ h
        unfold graph_Check.j1 at h
        try dsimp only at h
        refine .inBlock <| .reg0 rfl (.op 0 rfl (mvV rfl) <| .op 0 rfl (addI rfl rfl) <| .op 0 rfl (asV rfl) <| .nil0) <| .keepL [0] [(1, .ptr 0 1 10 0 0), (3, bo x16), (4, i6 x17), (5, i6 (IntKind.i64.wrap (x7 + 1)))] [⟨10, [(TGraph.lit a0)], 0, none⟩] (by decide) (by decide) ⟨.ptr rfl, .free rfl rfl, .free rfl rfl, .free rfl rfl, trivial⟩ ⟨⟨_, rfl, bcBox (all2_free rfl)⟩, trivial⟩ ?_
        exact hn1 _ h
      · by_cases c29 : (rdl a0.Steps x7).Kind = 8
        · rw [if_pos c29] at h
          refine .condT rfl (bt c29) <| .seq ?_
          refine .reg0 (e1 := listEnv [(1, .ptr 0 1 10 0 0), (3, bo (t46_2 && ((rdl a0.Steps x7).Site == x6))), (4, i6 x6), (5, i6 x7)]) (H1 := [⟨10, [(TGraph.lit a0)], 0, none⟩, ⟨7, [(TStep.lit (rdl a0.Steps x7))], 0, none⟩]) rfl ?_ ?_
          · refine .m rfl <| .m rfl <| ?_
            by_cases c30 : t46_2 = true
            · exact (.g rfl c30 (faP fa47_6 rfl) <| .g rfl c30 (ldP rfl sz3 ag3 rfl) <| .g rfl c30 (mvV rfl) <| .g rfl c30 (eqI rfl rfl) <| .o (pkTV rfl c30 rfl) <| .a rfl <| .nilL _ ⟨.ptr rfl, cB rfl (mAndT c30 rfl), .free rfl rfl, .free rfl rfl, trivial⟩)
            · exact (.n rfl (nb c30) <| .n rfl (nb c30) <| .n rfl (nb c30) <| .n rfl (nb c30) <| .o (pkFV rfl (nb c30) rfl) <| .a rfl <| .nilL _ ⟨.ptr rfl, cB rfl (mAndF (nb c30)), .free rfl rfl, .free rfl rfl, trivial⟩)
          refine .reg0 rfl (.m rfl <| .o (addI rfl rfl) <| .a rfl <| .nil0) <| .keepL [0] [(1, .ptr 0 1 10 0 0), (3, bo (t46_2 && ((rdl a0.Steps x7).Site == x6))), (4, i6 (IntKind.i64.wrap (x6 + 1))), (5, i6 x7)] [⟨10, [(TGraph.lit a0)], 0, none⟩] (by decide) (by decide) ⟨.ptr rfl, .free rfl rfl, .free rfl rfl, .free rfl rfl, trivial⟩ ⟨⟨_, rfl, bcBox (all2_free rfl)⟩, trivial⟩ ?_
          exact hJ1 _ h
        · rw [if_neg c29] at h
          refine .condF rfl (bn c29) <| .skip <| .keepL [0] [(1, .ptr 0 1 10 0 0), (3, bo t46_2), (4, i6 x6), (5, i6 x7)] [⟨10, [(TGraph.lit a0)], 0, none⟩] (by decide) (by decide) ⟨.ptr rfl, .free rfl rfl, .free rfl rfl, .free rfl rfl, trivial⟩ ⟨⟨_, rfl, bcBox (all2_free rfl)⟩, trivial⟩ ?_
          exact hJ1 _ h
    · rw [if_neg c22] at h
      refine .condF rfl (nb c22) <| .exit rfl <| .keepL [0] [(1, .ptr 0 1 10 0 0), (3, bo x5), (4, i6 x6)] [⟨10, [(TGraph.lit a0)], 0, none⟩] (by decide) (by decide) ⟨.ptr rfl, .free rfl rfl, .free rfl rfl, trivial⟩ ⟨⟨_, rfl, bcBox (all2_free rfl)⟩, trivial⟩ ?_
      exact hx1 _ h
def frames_Check.b1 (a0 : TGraph) (a1 : TState) : (Int × Int) → Rnd ((Int × Int)) Unit Int → Prop := fun (x1, x2) z1 => if x2 < (a1.Stack.length : Int) then (((InR x2 a1.Stack.length)) ∧ (¬ ((rdl a1.Stack x2) < 0) → ¬ ((rdl a1.Stack x2) ≥ (a0.Sites.length : Int)) → (InR (rdl a1.Stack x2) a0.Sites.length)) ∧ if ((decide ((rdl a1.Stack x2) < 0)) || ((decide ((rdl a1.Stack x2) ≥ (a0.Sites.length : Int))) || ((rdl a0.Sites (rdl a1.Stack x2)).Proc != x1))) = true then (z1 = .ret 220) else (((InR (rdl a1.Stack x2) a0.Sites.length)) ∧ ((InR ((rdl a0.Sites (rdl a1.Stack x2)).From) a0.Of.length)) ∧ z1 = .next ((rdl a0.Of ((rdl a0.Sites (rdl a1.Stack x2)).From)), (IntKind.i64.wrap (x2 + 1))))) else (z1 = .exit ())
def frames_Check.f (a0 : TGraph) (a1 : TState) (r : Int) : Prop :=
  ∃ t2_1 : Int, (graph_Check.f a0 t2_1) ∧ if t2_1 = 0 then ((¬ (a1.Node < 0) → ¬ (a1.Node ≥ (a0.Of.length : Int)) → ((a1.Env.length : Int) = (a0.Vars.length : Int)) → ((a0.Vars.length : Int) < 64) → ((0 : Int) ≤ (a0.Vars.length : Int))) ∧ if ((decide (a1.Node < 0)) || ((decide (a1.Node ≥ (a0.Of.length : Int))) || ((!((a1.Env.length : Int) == (a0.Vars.length : Int))) || (bif (decide ((a0.Vars.length : Int) < 64)) then ((!((shrI .u64 a1.Marks (a0.Vars.length : Int)) == 0)) || (decide ((a1.Stack.length : Int) > 4096))) else (decide ((a1.Stack.length : Int) > 4096)))))) = true then (r = 220) else (((InR a1.Node a0.Of.length)) ∧ ∃ o1 : Fin Unit Int, Loop (frames_Check.b1 a0 a1) ((rdl a0.Of a1.Node), 0) o1 ∧ o1.on (fun _ => r = 0) (fun r_ => r = r_))) else (r = t2_1)
theorem frames_Check.D {a0 a1 r} (h : frames_Check.f a0 a1 r) : D Tryd.prog X (.callH 20 [.agg (TGraph.lit a0), .agg (TState.lit a1)] [] (.val (.int .i64 r)) []) := by
  unfold frames_Check.f at h
  refine .enter 98 0 fn20 rfl rfl rfl <| .seq <| .room 0 <| .room 0 <| .reg0 rfl (.op 0 rfl (bxP (s := 10) (cs := (TGraph.lit a0)) rfl ⟨rfl, by decide, rfl⟩ rfl) <| .op 1 rfl (bxP (s := 4) (cs := (TState.lit a1)) rfl ⟨rfl, by decide, rfl⟩ rfl) <| .op 0 rfl (asV rfl) <| .nil0) <| .seq <| .seq ?_
  obtain ⟨t2_1, g2_1, h⟩ := h
  refine .reg0 rfl (.o (ldG rfl sz29 ag29 rfl) <| .c rfl go29 rfl rfl rfl (graph_Check.D g2_1) <| .a rfl <| .nil0) <| .seq <| .reg0 rfl (.op 0 rfl (mvV rfl) <| .op 0 rfl (neI rfl rfl) <| .nil0) ?_
  by_cases c1 : t2_1 = 0
  · rw [if_pos c1] at h
    refine .condF rfl (nf c1) <| .skip <| .seq <| .seq ?_
    obtain ⟨g4_31, h⟩ := h
    refine .reg0 (e1 := listEnv [(2, .ptr 0 1 10 0 0), (3, .ptr 1 1 4 0 0), (54, bo ((decide (a1.Node < 0)) || ((decide (a1.Node ≥ (a0.Of.length : Int))) || ((!((a1.Env.length : Int) == (a0.Vars.length : Int))) || (bif (decide ((a0.Vars.length : Int) < 64)) then ((!((shrI .u64 a1.Marks (a0.Vars.length : Int)) == 0)) || (decide ((a1.Stack.length : Int) > 4096))) else (decide ((a1.Stack.length : Int) > 4096)))))))]) (H1 := [⟨10, [(TGraph.lit a0)], 0, none⟩, ⟨4, [(TState.lit a1)], 0, none⟩]) rfl ?_ ?_
    · refine .o (faP fa33_0 rfl) <| .o (ldP rfl sz3 ag3 rfl) <| .o (ltI rfl rfl) <| .m rfl <| ?_
      by_cases c2 : a1.Node < 0
      · exact (.n rfl (dt c2) <| .n rfl (dt c2) <| .n rfl (dt c2) <| .n rfl (dt c2) <| .n rfl (dt c2) <| .n rfl (dt c2) <| .o (pkTV rfl (dt c2) rfl) <| .m rfl <| .n rfl rfl <| .n rfl rfl <| .n rfl rfl <| .n rfl rfl <| .n rfl rfl <| .n rfl rfl <| .n rfl rfl <| .o (pkTV rfl rfl rfl) <| .m rfl <| .n rfl rfl <| .n rfl rfl <| .n rfl rfl <| .n rfl rfl <| .n rfl rfl <| .u rfl <| .u rfl <| .u rfl <| .u rfl <| .u rfl <| .u rfl <| .u rfl <| .n rfl rfl <| .o (pkTV rfl rfl rfl) <| .m rfl <| .n rfl rfl <| .n rfl rfl <| .n rfl rfl <| .n rfl rfl <| .o (pkTV rfl rfl rfl) <| .nilL _ ⟨.ptr rfl, .ptr rfl, cB rfl (mOrT (dt c2)), trivial⟩)
      · refine .g rfl (df c2) (faP fa33_0 rfl) <| .g rfl (df c2) (ldP rfl sz3 ag3 rfl) <| .g rfl (df c2) (faP fa29_5 rfl) <| .g rfl (df c2) (ldP rfl sz23 ag23 rfl) <| .g rfl (df c2) (lnR (l := a0.Of) sl23 rfl) <| .g rfl (df c2) (geI rfl rfl) <| .o (pkFV rfl (df c2) rfl) <| .m rfl <| ?_
        by_cases c3 : a1.Node ≥ (a0.Of.length : Int)
        · exact (.n rfl (dt c3) <| .n rfl (dt c3) <| .n rfl (dt c3) <| .n rfl (dt c3) <| .n rfl (dt c3) <| .n rfl (dt c3) <| .n rfl (dt c3) <| .o (pkTV rfl (dt c3) rfl) <| .m rfl <| .n rfl rfl <| .n rfl rfl <| .n rfl rfl <| .n rfl rfl <| .n rfl rfl <| .u rfl <| .u rfl <| .u rfl <| .u rfl <| .u rfl <| .u rfl <| .u rfl <| .n rfl rfl <| .o (pkTV rfl rfl rfl) <| .m rfl <| .n rfl rfl <| .n rfl rfl <| .n rfl rfl <| .n rfl rfl <| .o (pkTV rfl rfl rfl) <| .nilL _ ⟨.ptr rfl, .ptr rfl, cB rfl (mOrF (df c2) (mOrT (dt c3))), trivial⟩)
        · refine .g rfl (df c3) (faP fa33_1 rfl) <| .g rfl (df c3) (ldP rfl sz30 ag30 rfl) <| .g rfl (df c3) (lnR (l := a1.Env) sl30 rfl) <| .g rfl (df c3) (faP fa29_0 rfl) <| .g rfl (df c3) (ldP rfl sz22 ag22 rfl) <| .g rfl (df c3) (lnR (l := a0.Vars) sl22 rfl) <| .g rfl (df c3) (neI rfl rfl) <| .o (pkFV rfl (df c3) rfl) <| .m rfl <| ?_
          by_cases c4 : (a1.Env.length : Int) = (a0.Vars.length : Int)
          · refine .g rfl (nf c4) (faP fa29_0 rfl) <| .g rfl (nf c4) (ldP rfl sz22 ag22 rfl) <| .g rfl (nf c4) (lnR (l := a0.Vars) sl22 rfl) <| .g rfl (nf c4) (ltI rfl rfl) <| .g rfl (nf c4) (mvV rfl) <| ?_
            by_cases c5 : (a0.Vars.length : Int) < 64
            · refine .g rfl (dt c5) (faP fa33_2 rfl) <| .g rfl (dt c5) (ldP rfl sz31 ag31 rfl) <| .g rfl (dt c5) (faP fa29_0 rfl) <| .g rfl (dt c5) (ldP rfl sz22 ag22 rfl) <| .g rfl (dt c5) (lnR (l := a0.Vars) sl22 rfl) <| .g rfl (dt c5) (shr_ rfl rfl (g4_31 c2 c3 c4 c5)) <| .g rfl (dt c5) (neI rfl rfl) <| .g rfl (nf c4) (pkTV rfl (dt c5) rfl) <| .o (pkFV rfl (nf c4) rfl) <| .m rfl <| ?_
              by_cases c6 : (shrI .u64 a1.Marks (a0.Vars.length : Int)) = 0
              · exact (.g rfl (nf c6) (faP fa33_3 rfl) <| .g rfl (nf c6) (ldP rfl sz23 ag23 rfl) <| .g rfl (nf c6) (lnR (l := a1.Stack) sl23 rfl) <| .g rfl (nf c6) (gtI rfl rfl) <| .o (pkFV rfl (nf c6) rfl) <| .nilL _ ⟨.ptr rfl, .ptr rfl, cB rfl (mOrF (df c2) (mOrF (df c3) (mOrF (bnotF (bt c4)) (mIteT (dt c5) (mOrF (bnotF (bt c6)) rfl))))), trivial⟩)
              · exact (.n rfl (nt c6) <| .n rfl (nt c6) <| .n rfl (nt c6) <| .n rfl (nt c6) <| .o (pkTV rfl (nt c6) rfl) <| .nilL _ ⟨.ptr rfl, .ptr rfl, cB rfl (mOrF (df c2) (mOrF (df c3) (mOrF (bnotF (bt c4)) (mIteT (dt c5) (mOrT (bnotT (bn c6))))))), trivial⟩)
            · exact (.n rfl (df c5) <| .n rfl (df c5) <| .n rfl (df c5) <| .n rfl (df c5) <| .n rfl (df c5) <| .n rfl (df c5) <| .n rfl (df c5) <| .g rfl (nf c4) (pkFV rfl (df c5) rfl) <| .o (pkFV rfl (nf c4) rfl) <| .m rfl <| .g rfl rfl (faP fa33_3 rfl) <| .g rfl rfl (ldP rfl sz23 ag23 rfl) <| .g rfl rfl (lnR (l := a1.Stack) sl23 rfl) <| .g rfl rfl (gtI rfl rfl) <| .o (pkFV rfl rfl rfl) <| .nilL _ ⟨.ptr rfl, .ptr rfl, cB rfl (mOrF (df c2) (mOrF (df c3) (mOrF (bnotF (bt c4)) (mIteF (df c5) rfl)))), trivial⟩)
          · exact (.n rfl (nt c4) <| .n rfl (nt c4) <| .n rfl (nt c4) <| .n rfl (nt c4) <| .n rfl (nt c4) <| .u rfl <| .u rfl <| .u rfl <| .u rfl <| .u rfl <| .u rfl <| .u rfl <| .n rfl (nt c4) <| .o (pkTV rfl (nt c4) rfl) <| .m rfl <| .n rfl rfl <| .n rfl rfl <| .n rfl rfl <| .n rfl rfl <| .o (pkTV rfl rfl rfl) <| .nilL _ ⟨.ptr rfl, .ptr rfl, cB rfl (mOrF (df c2) (mOrF (df c3) (mOrT (bnotT (bn c4))))), trivial⟩)
    by_cases c7 : ((decide (a1.Node < 0)) || ((decide (a1.Node ≥ (a0.Of.length : Int))) || ((!((a1.Env.length : Int) == (a0.Vars.length : Int))) || (bif (decide ((a0.Vars.length : Int) < 64)) then ((!((shrI .u64 a1.Marks (a0.Vars.length : Int)) == 0)) || (decide ((a1.Stack.length : Int) > 4096))) else (decide ((a1.Stack.length : Int) > 4096)))))) = true
    · rw [if_pos c7] at h
      refine .condT rfl c7 <| .seq <| .reg0 rfl (.op 0 rfl (asV rfl) <| .nil0) ?_
      replace h := h.symm
      subst h
      refine .kf [(4, i6 220)] rfl rfl ?_
      exact .ret rfl
    · rw [if_neg c7] at h
      refine .condF rfl (nb c7) <| .skip <| .seq ?_
      obtain ⟨g6_4, h⟩ := h
      refine .reg0 rfl (.o (faP fa29_5 rfl) <| .o (ldP rfl sz23 ag23 rfl) <| .o (faP fa33_0 rfl) <| .o (ldP rfl sz3 ag3 rfl) <| .o (ixR (l := a0.Of) (lit := (cInt .i64)) sl23 rfl rfl (fun _ => rfl) g6_4.1 g6_4.2) <| .o (ldC rfl sz3 ag3 rfl) <| .a rfl <| .nil0) <| .seq <| .seq <| .reg0 rfl (.op 0 rfl (faP fa33_3 rfl) <| .op 0 rfl (ldP rfl sz23 ag23 rfl) <| .op 0 rfl (lnR (l := a1.Stack) sl23 rfl) <| .op 0 rfl (mvV rfl) <| .nil0) ?_
      refine .block <| .keepL [0] [(2, .ptr 0 1 10 0 0), (6, i6 (rdl a0.Of a1.Node)), (62, .rows (a1.Stack.map (cInt .i64))), (63, i6 (a1.Stack.length : Int)), (64, i6 0)] [⟨10, [(TGraph.lit a0)], 0, none⟩] (by decide) (by decide) ⟨.ptr rfl, .free rfl rfl, .free rfl rfl, .free rfl rfl, .free rfl rfl, trivial⟩ ⟨⟨_, rfl, bcBox (all2_free rfl)⟩, trivial⟩ ?_
      obtain ⟨o1, hL1, h⟩ := h
      refine .loopB (frames_Check.b1 a0 a1) (fun (x1, x2) => listEnv [(2, .ptr 0 1 10 0 0), (6, i6 x1), (62, .rows (a1.Stack.map (cInt .i64))), (63, i6 (a1.Stack.length : Int)), (64, i6 x2)]) (fun (x1, x2) => [⟨10, [(TGraph.lit a0)], 0, none⟩]) (fun _ => listEnv []) (fun _ => []) hL1 (fun r_ => r = r_) ?_ ?_ ?_
      · rintro ⟨⟩ rfl
        try dsimp only [Fin.on] at h
        refine .seq <| .reg0 rfl (.op 0 rfl (asV rfl) <| .nil0) ?_
        replace h := h.symm
        subst h
        refine .kf [(4, i6 0)] rfl rfl ?_
        exact .ret rfl
      · rintro r_ rfl
        exact h
      · rintro ⟨x1, x2⟩ z1 h hn1 hx1 hr1
        dsimp only [frames_Check.b1] at h
        refine .seq <| .reg0 rfl (.op 0 rfl (ltI rfl rfl) <| .nil0) <| .seq ?_
        by_cases c16 : x2 < (a1.Stack.length : Int)
        · rw [if_pos c16] at h
          refine .condT rfl (dt c16) <| .skip <| .seq <| .block <| .seq ?_
          obtain ⟨g21_0, h⟩ := h
          refine .reg0 rfl (.o (ixR (l := a1.Stack) (lit := (cInt .i64)) sl23 rfl rfl (fun _ => rfl) g21_0.1 g21_0.2) <| .o (ldC rfl sz3 ag3 rfl) <| .a rfl <| .nil0) <| .seq <| .seq ?_
          obtain ⟨g22_13, h⟩ := h
          refine .reg0 (e1 := listEnv [(2, .ptr 0 1 10 0 0), (8, i6 (rdl a1.Stack x2)), (62, .rows (a1.Stack.map (cInt .i64))), (63, i6 (a1.Stack.length : Int)), (64, i6 x2), (86, bo ((decide ((rdl a1.Stack x2) < 0)) || ((decide ((rdl a1.Stack x2) ≥ (a0.Sites.length : Int))) || ((rdl a0.Sites (rdl a1.Stack x2)).Proc != x1))))]) (H1 := [⟨10, [(TGraph.lit a0)], 0, none⟩]) rfl ?_ ?_
          · refine .m rfl <| .o (ltI rfl rfl) <| .m rfl <| ?_
            by_cases c17 : (rdl a1.Stack x2) < 0
            · exact (.n rfl (dt c17) <| .n rfl (dt c17) <| .n rfl (dt c17) <| .n rfl (dt c17) <| .n rfl (dt c17) <| .o (pkTV rfl (dt c17) rfl) <| .m rfl <| .n rfl rfl <| .n rfl rfl <| .n rfl rfl <| .n rfl rfl <| .n rfl rfl <| .n rfl rfl <| .n rfl rfl <| .n rfl rfl <| .o (pkTV rfl rfl rfl) <| .nilL _ ⟨.ptr rfl, .free rfl rfl, .free rfl rfl, .free rfl rfl, .free rfl rfl, cB rfl (mOrT (dt c17)), trivial⟩)
            · refine .g rfl (df c17) (mvV rfl) <| .g rfl (df c17) (faP fa29_7 rfl) <| .g rfl (df c17) (ldP rfl sz25 ag25 rfl) <| .g rfl (df c17) (lnR (l := a0.Sites) sl25 rfl) <| .g rfl (df c17) (geI rfl rfl) <| .o (pkFV rfl (df c17) rfl) <| .m rfl <| ?_
              by_cases c18 : (rdl a1.Stack x2) ≥ (a0.Sites.length : Int)
              · exact (.n rfl (dt c18) <| .n rfl (dt c18) <| .n rfl (dt c18) <| .n rfl (dt c18) <| .n rfl (dt c18) <| .n rfl (dt c18) <| .n rfl (dt c18) <| .n rfl (dt c18) <| .o (pkTV rfl (dt c18) rfl) <| .nilL _ ⟨.ptr rfl, .free rfl rfl, .free rfl rfl, .free rfl rfl, .free rfl rfl, cB rfl (mOrF (df c17) (mOrT (dt c18))), trivial⟩)
              · exact (.g rfl (df c18) (faP fa29_7 rfl) <| .g rfl (df c18) (ldP rfl sz25 ag25 rfl) <| .g rfl (df c18) (mvV rfl) <| .g rfl (df c18) (ixR (l := a0.Sites) (lit := TSite.lit) sl25 rfl rfl (fun _ => rfl) (g22_13 c17 c18).1 (g22_13 c17 c18).2) <| .g rfl (df c18) (faC fa76_1 rfl) <| .g rfl (df c18) (ldC rfl sz3 ag3 rfl) <| .g rfl (df c18) (mvV rfl) <| .g rfl (df c18) (neI rfl rfl) <| .o (pkFV rfl (df c18) rfl) <| .nilL _ ⟨.ptr rfl, .free rfl rfl, .free rfl rfl, .free rfl rfl, .free rfl rfl, cB rfl (mOrF (df c17) (mOrF (df c18) rfl)), trivial⟩)
          by_cases c19 : ((decide ((rdl a1.Stack x2) < 0)) || ((decide ((rdl a1.Stack x2) ≥ (a0.Sites.length : Int))) || ((rdl a0.Sites (rdl a1.Stack x2)).Proc != x1))) = true
          · rw [if_pos c19] at h
            refine .condT rfl c19 <| .seq <| .reg0 rfl (.op 0 rfl (asV rfl) <| .nil0) ?_
            have q3 := hr1 _ h
            replace q3 := q3.symm
            subst q3
            refine .kf [(4, i6 220)] rfl rfl ?_
            exact .ret rfl
          · rw [if_neg c19] at h
            refine .condF rfl (nb c19) <| .skip ?_
            obtain ⟨g24_5, h⟩ := h
            obtain ⟨g24_8, h⟩ := h
            refine .reg1 (e1 := listEnv [(2, .ptr 0 1 10 0 0), (6, i6 (rdl a0.Of ((rdl a0.Sites (rdl a1.Stack x2)).From))), (62, .rows (a1.Stack.map (cInt .i64))), (63, i6 (a1.Stack.length : Int)), (64, i6 x2)]) (H1 := [⟨10, [(TGraph.lit a0)], 0, none⟩]) rfl ?_ ?_
            · exact .drawM [(10, 6, i6 (rdl a0.Of ((rdl a0.Sites (rdl a1.Stack x2)).From))), (9, 96, i6 (rdl a0.Of ((rdl a0.Sites (rdl a1.Stack x2)).From))), (8, 95, .cptr ((cInt .i64) (rdl a0.Of ((rdl a0.Sites (rdl a1.Stack x2)).From))) 0), (7, 94, i6 ((rdl a0.Sites (rdl a1.Stack x2)).From)), (6, 93, .cptr (TSite.lit (rdl a0.Sites (rdl a1.Stack x2))) 2), (5, 92, .cptr (TSite.lit (rdl a0.Sites (rdl a1.Stack x2))) 0), (4, 91, i6 (rdl a1.Stack x2)), (3, 90, .rows (a0.Sites.map TSite.cells)), (2, 89, .ptr 0 1 10 0 7), (1, 88, .rows (a0.Of.map (cInt .i64))), (0, 87, .ptr 0 1 10 0 5)] [] [[], [0], [], [2], [], [3, 2, 4], [5, 3, 2, 4], [6, 5, 3, 2, 4], [1, 0, 7, 6, 5, 3, 2, 4], [8, 1, 0, 7, 6, 5, 3, 2, 4], [9, 8, 1, 0, 7, 6, 5, 3, 2, 4]] (by rfl) (by rfl) (by rfl) (by exact ⟨oP (fun _ => faP fa29_5 rfl) rfl, oP (fun _ => ldP rfl sz23 ag23 rfl) rfl, oP (fun _ => faP fa29_7 rfl) rfl, oP (fun _ => ldP rfl sz25 ag25 rfl) rfl, oP (fun _ => mvV rfl) rfl, oP (fun _ => ixR (l := a0.Sites) (lit := TSite.lit) sl25 rfl rfl (fun _ => rfl) g24_5.1 g24_5.2) rfl, oP (fun _ => faC fa76_2 rfl) rfl, oP (fun _ => ldC rfl sz3 ag3 rfl) rfl, oP (fun _ => ixR (l := a0.Of) (lit := (cInt .i64)) sl23 rfl rfl (fun _ => rfl) g24_8.1 g24_8.2) rfl, oP (fun _ => ldC rfl sz3 ag3 rfl) rfl, oP (fun _ => asV rfl) rfl, trivial⟩) _ (by exact ⟨.ptr rfl, .free rfl rfl, .free rfl rfl, .free rfl rfl, .free rfl rfl, trivial⟩) (by rfl)
            refine .inBlock <| .reg0 rfl (.op 0 rfl (addI rfl rfl) <| .op 0 rfl (mvV rfl) <| .nil0) <| .keepL [0] [(2, .ptr 0 1 10 0 0), (6, i6 (rdl a0.Of ((rdl a0.Sites (rdl a1.Stack x2)).From))), (62, .rows (a1.Stack.map (cInt .i64))), (63, i6 (a1.Stack.length : Int)), (64, i6 (IntKind.i64.wrap (x2 + 1)))] [⟨10, [(TGraph.lit a0)], 0, none⟩] (by decide) (by decide) ⟨.ptr rfl, .free rfl rfl, .free rfl rfl, .free rfl rfl, .free rfl rfl, trivial⟩ ⟨⟨_, rfl, bcBox (all2_free rfl)⟩, trivial⟩ ?_
            exact hn1 _ h
        · rw [if_neg c16] at h
          refine .condF rfl (df c16) <| .exit rfl <| .keepL [] [] [] (by decide) (by decide) trivial trivial ?_
          exact hx1 _ h
  · rw [if_neg c1] at h
    refine .condT rfl (nt c1) <| .seq <| .reg0 rfl (.op 0 rfl (mvV rfl) <| .op 0 rfl (asV rfl) <| .nil0) ?_
    replace h := h.symm
    subst h
    refine .kf [(4, i6 t2_1)] rfl rfl ?_
    exact .ret rfl
def slices_Clone_int64.f (a0 : List Int) (r : (List Int)) : Prop :=
  if a0.length = 0 then (∀ (z_ : Option Addr) (k_ : Nat), if z_.isNone = true then (r = []) else (((Fits (0 + 0) 8)) ∧ r = [])) else (((Fits (0 + a0.length) 8)) ∧ r = a0)
theorem slices_Clone_int64.D {a0 r} (h : slices_Clone_int64.f a0 r) : D Tryd.prog X (.callH 21 [.rows (a0.map (cInt .i64))] [] (.rows (r.map (cInt .i64))) []) := by
  unfold slices_Clone_int64.f at h
  by_cases c0_ : a0.length = 0
  · rw [if_pos c0_] at h
    have e0_ := List.eq_nil_of_length_eq_zero c0_
    subst e0_
    refine .nilQ [] [] fun z_ k_ => ?_
    replace h := h z_ k_
    refine .enter 8 0 fn21 rfl rfl rfl <| .seq <| .reg0 rfl (.op 0 rfl (asV rfl) <| .nil0) <| .seq <| .seq <| .reg0 rfl (.op 0 rfl (mvV rfl) <| .op 0 rfl (eqEN un30 rfl rfl) <| .nil0) ?_
    by_cases c1 : z_.isNone = true
    · rw [if_pos c1] at h
      refine .condT rfl c1 <| .seq <| .reg0 rfl (.op 0 rfl (asV rfl) <| .nil0) ?_
      replace h := h.symm
      subst h
      refine .k [(2, .rows (([] : List Int).map (cInt .i64)))] ⟨.nil, trivial⟩ ?_
      exact .ret rfl
    · rw [if_neg c1] at h
      refine .condF rfl (nb c1) <| .skip <| .seq ?_
      obtain ⟨g4_2, h⟩ := h
      refine .room 0 <| .room 0 <| .reg0 rfl (.op 0 rfl (bldL (s := 1) (cs := []) un30 sz2 ze2 ⟨by decide, rfl, by decide⟩ rfl rfl rfl rfl) <| .op 0 rfl (mvV rfl) <| .op 0 rfl (apL (l := []) [] sl30 rfl rfl rfl (Nat.zero_le _) rfl g4_2) <| .op 0 rfl (asO rfl) <| .nil0) ?_
      replace h := h.symm
      subst h
      refine .k [(2, .rows ([].map (cInt .i64)))] ⟨cFixO (l := []) sl30 rfl rfl rfl rfl, trivial⟩ ?_
      exact .ret rfl
  · rw [if_neg c0_] at h
    refine .enter 8 0 fn21 rfl rfl rfl <| .seq <| .reg0 rfl (.op 0 rfl (asV rfl) <| .nil0) <| .seq <| .seq <| .reg0 rfl (.op 0 rfl (mvR rfl) <| .op 0 rfl (eqRN c0_ un30 rfl rfl) <| .nil0) <| .condF rfl rfl <| .skip <| .seq ?_
    obtain ⟨g7_2, h⟩ := h
    refine .room 0 <| .room 0 <| .reg0 rfl (.op 0 rfl (bldL (s := 1) (cs := []) un30 sz2 ze2 ⟨by decide, rfl, by decide⟩ rfl rfl rfl rfl) <| .op 0 rfl (mvR rfl) <| .op 0 rfl (apL (l := []) a0 sl30 rfl rfl rfl (Nat.zero_le _) rfl g7_2) <| .op 0 rfl (asO rfl) <| .nil0) ?_
    replace h := h.symm
    subst h
    refine .k [(2, .rows (a0.map (cInt .i64)))] ⟨cFixO (l := a0) sl30 rfl rfl rfl rfl, trivial⟩ ?_
    exact .ret rfl
def slices_Clone_int.f (a0 : List Int) (r : (List Int)) : Prop :=
  if a0.length = 0 then (∀ (z_ : Option Addr) (k_ : Nat), if z_.isNone = true then (r = []) else (((Fits (0 + 0) 8)) ∧ r = [])) else (((Fits (0 + a0.length) 8)) ∧ r = a0)
theorem slices_Clone_int.D {a0 r} (h : slices_Clone_int.f a0 r) : D Tryd.prog X (.callH 22 [.rows (a0.map (cInt .i64))] [] (.rows (r.map (cInt .i64))) []) := by
  unfold slices_Clone_int.f at h
  by_cases c0_ : a0.length = 0
  · rw [if_pos c0_] at h
    have e0_ := List.eq_nil_of_length_eq_zero c0_
    subst e0_
    refine .nilQ [] [] fun z_ k_ => ?_
    replace h := h z_ k_
    refine .enter 8 0 fn22 rfl rfl rfl <| .seq <| .reg0 rfl (.op 0 rfl (asV rfl) <| .nil0) <| .seq <| .seq <| .reg0 rfl (.op 0 rfl (mvV rfl) <| .op 0 rfl (eqEN un23 rfl rfl) <| .nil0) ?_
    by_cases c1 : z_.isNone = true
    · rw [if_pos c1] at h
      refine .condT rfl c1 <| .seq <| .reg0 rfl (.op 0 rfl (asV rfl) <| .nil0) ?_
      replace h := h.symm
      subst h
      refine .k [(2, .rows (([] : List Int).map (cInt .i64)))] ⟨.nil, trivial⟩ ?_
      exact .ret rfl
    · rw [if_neg c1] at h
      refine .condF rfl (nb c1) <| .skip <| .seq ?_
      obtain ⟨g4_2, h⟩ := h
      refine .room 0 <| .room 0 <| .reg0 rfl (.op 0 rfl (bldL (s := 1) (cs := []) un23 sz3 ze3 ⟨by decide, rfl, by decide⟩ rfl rfl rfl rfl) <| .op 0 rfl (mvV rfl) <| .op 0 rfl (apL (l := []) [] sl23 rfl rfl rfl (Nat.zero_le _) rfl g4_2) <| .op 0 rfl (asO rfl) <| .nil0) ?_
      replace h := h.symm
      subst h
      refine .k [(2, .rows ([].map (cInt .i64)))] ⟨cFixO (l := []) sl23 rfl rfl rfl rfl, trivial⟩ ?_
      exact .ret rfl
  · rw [if_neg c0_] at h
    refine .enter 8 0 fn22 rfl rfl rfl <| .seq <| .reg0 rfl (.op 0 rfl (asV rfl) <| .nil0) <| .seq <| .seq <| .reg0 rfl (.op 0 rfl (mvR rfl) <| .op 0 rfl (eqRN c0_ un23 rfl rfl) <| .nil0) <| .condF rfl rfl <| .skip <| .seq ?_
    obtain ⟨g7_2, h⟩ := h
    refine .room 0 <| .room 0 <| .reg0 rfl (.op 0 rfl (bldL (s := 1) (cs := []) un23 sz3 ze3 ⟨by decide, rfl, by decide⟩ rfl rfl rfl rfl) <| .op 0 rfl (mvR rfl) <| .op 0 rfl (apL (l := []) a0 sl23 rfl rfl rfl (Nat.zero_le _) rfl g7_2) <| .op 0 rfl (asO rfl) <| .nil0) ?_
    replace h := h.symm
    subst h
    refine .k [(2, .rows (a0.map (cInt .i64)))] ⟨cFixO (l := a0) sl23 rfl rfl rfl rfl, trivial⟩ ?_
    exact .ret rfl
def frames_over.f (a0 : TGraph) (a1 : TState) (r : Bool) : Prop :=
  ((InR a1.Node a0.Of.length)) ∧ ((InR (rdl a0.Of a1.Node) a0.Exit.length)) ∧ r = ((a1.Node == (rdl a0.Exit (rdl a0.Of a1.Node))) && (decide ((a1.Stack.length : Int) > 0)))
abbrev GD_A0 : List (List Nat) := [[], [0], [], [2], [], [4], [], [6], [5, 4, 7, 6], [8, 5, 4, 7, 6], [3, 2, 9, 8, 5, 4, 7, 6], [10, 3, 2, 9, 8, 5, 4, 7, 6], [1, 0, 11, 10, 3, 2, 9, 8, 5, 4, 7, 6], [12, 1, 0, 11, 10, 3, 2, 9, 8, 5, 4, 7, 6], [13, 12, 1, 0, 11, 10, 3, 2, 9, 8, 5, 4, 7, 6], [14, 13, 12, 1, 0, 11, 10, 3, 2, 9, 8, 5, 4, 7, 6], [15, 14, 13, 12, 1, 0, 11, 10, 3, 2, 9, 8, 5, 4, 7, 6], [16, 15, 14, 13, 12, 1, 0, 11, 10, 3, 2, 9, 8, 5, 4, 7, 6], [13, 12, 1, 0, 11, 10, 3, 2, 9, 8, 5, 4, 7, 6, 17, 16, 15, 14], [18, 13, 12, 1, 0, 11, 10, 3, 2, 9, 8, 5, 4, 7, 6, 17, 16, 15, 14]]
theorem frames_over.D {a0 a1 r} (h : frames_over.f a0 a1 r) : D Tryd.prog X (.callH 30 [.agg (TGraph.lit a0), .agg (TState.lit a1)] [] (.val (.bool r)) []) := by
  unfold frames_over.f at h
  refine .enter 24 0 fn30 rfl rfl rfl <| .seq <| .room 0 <| .room 0 <| .reg0 rfl (.op 0 rfl (bxP (s := 10) (cs := (TGraph.lit a0)) rfl ⟨rfl, by decide, rfl⟩ rfl) <| .op 1 rfl (bxP (s := 4) (cs := (TState.lit a1)) rfl ⟨rfl, by decide, rfl⟩ rfl) <| .op 0 rfl (asV rfl) <| .nil0) <| .seq ?_
  obtain ⟨g2_8, h⟩ := h
  obtain ⟨g2_10, h⟩ := h
  refine .reg1 (e1 := listEnv [(4, bo ((a1.Node == (rdl a0.Exit (rdl a0.Of a1.Node))) && (decide ((a1.Stack.length : Int) > 0))))]) (H1 := [⟨10, [(TGraph.lit a0)], 0, none⟩, ⟨4, [(TState.lit a1)], 0, none⟩]) rfl ?_ ?_
  · by_cases c1 : a1.Node = (rdl a0.Exit (rdl a0.Of a1.Node))
    · exact .drawM [(19, 4, bo (decide ((a1.Stack.length : Int) > 0))), (18, 23, bo (decide ((a1.Stack.length : Int) > 0))), (17, 22, bo (decide ((a1.Stack.length : Int) > 0))), (16, 21, i6 (a1.Stack.length : Int)), (15, 20, .rows (a1.Stack.map (cInt .i64))), (14, 19, .ptr 1 1 4 0 3), (13, 18, bo (a1.Node == (rdl a0.Exit (rdl a0.Of a1.Node)))), (12, 17, bo (a1.Node == (rdl a0.Exit (rdl a0.Of a1.Node)))), (11, 16, i6 (rdl a0.Exit (rdl a0.Of a1.Node))), (10, 15, .cptr ((cInt .i64) (rdl a0.Exit (rdl a0.Of a1.Node))) 0), (9, 14, i6 (rdl a0.Of a1.Node)), (8, 13, .cptr ((cInt .i64) (rdl a0.Of a1.Node)) 0), (7, 12, i6 a1.Node), (6, 11, .ptr 1 1 4 0 0), (5, 10, .rows (a0.Of.map (cInt .i64))), (4, 9, .ptr 0 1 10 0 5), (3, 8, .rows (a0.Exit.map (cInt .i64))), (2, 7, .ptr 0 1 10 0 3), (1, 6, i6 a1.Node), (0, 5, .ptr 1 1 4 0 0)] [] GD_A0 (by rfl) (by rfl) (by rfl) (by exact ⟨oP (fun _ => faP fa33_0 rfl) rfl, oP (fun _ => ldP rfl sz3 ag3 rfl) rfl, oP (fun _ => faP fa29_3 rfl) rfl, oP (fun _ => ldP rfl sz23 ag23 rfl) rfl, oP (fun _ => faP fa29_5 rfl) rfl, oP (fun _ => ldP rfl sz23 ag23 rfl) rfl, oP (fun _ => faP fa33_0 rfl) rfl, oP (fun _ => ldP rfl sz3 ag3 rfl) rfl, oP (fun _ => ixR (l := a0.Of) (lit := (cInt .i64)) sl23 rfl rfl (fun _ => rfl) g2_8.1 g2_8.2) rfl, oP (fun _ => ldC rfl sz3 ag3 rfl) rfl, oP (fun _ => ixR (l := a0.Exit) (lit := (cInt .i64)) sl23 rfl rfl (fun _ => rfl) g2_10.1 g2_10.2) rfl, oP (fun _ => ldC rfl sz3 ag3 rfl) rfl, oP (fun _ => eqI rfl rfl) rfl, oP (fun _ => mvV rfl) rfl, oG rfl (fun _ => rfl) (bt c1) (fun _ => faP fa33_3 rfl) rfl, oG rfl (fun _ => rfl) (bt c1) (fun _ => ldP rfl sz23 ag23 rfl) rfl, oG rfl (fun _ => rfl) (bt c1) (fun _ => lnR (l := a1.Stack) sl23 rfl) rfl, oG rfl (fun _ => rfl) (bt c1) (fun _ => gtI rfl rfl) rfl, oP (fun _ => pkTV rfl (bt c1) rfl) rfl, oP (fun _ => asV rfl) rfl, trivial⟩) _ (by exact ⟨cB rfl (mAndT (bt c1) rfl), trivial⟩) (by rfl)
    · exact .drawM [(19, 4, bo false), (18, 23, bo false), (17, 22, und), (16, 21, und), (15, 20, und), (14, 19, und), (13, 18, bo (a1.Node == (rdl a0.Exit (rdl a0.Of a1.Node)))), (12, 17, bo (a1.Node == (rdl a0.Exit (rdl a0.Of a1.Node)))), (11, 16, i6 (rdl a0.Exit (rdl a0.Of a1.Node))), (10, 15, .cptr ((cInt .i64) (rdl a0.Exit (rdl a0.Of a1.Node))) 0), (9, 14, i6 (rdl a0.Of a1.Node)), (8, 13, .cptr ((cInt .i64) (rdl a0.Of a1.Node)) 0), (7, 12, i6 a1.Node), (6, 11, .ptr 1 1 4 0 0), (5, 10, .rows (a0.Of.map (cInt .i64))), (4, 9, .ptr 0 1 10 0 5), (3, 8, .rows (a0.Exit.map (cInt .i64))), (2, 7, .ptr 0 1 10 0 3), (1, 6, i6 a1.Node), (0, 5, .ptr 1 1 4 0 0)] [] GD_A0 (by rfl) (by rfl) (by rfl) (by exact ⟨oP (fun _ => faP fa33_0 rfl) rfl, oP (fun _ => ldP rfl sz3 ag3 rfl) rfl, oP (fun _ => faP fa29_3 rfl) rfl, oP (fun _ => ldP rfl sz23 ag23 rfl) rfl, oP (fun _ => faP fa29_5 rfl) rfl, oP (fun _ => ldP rfl sz23 ag23 rfl) rfl, oP (fun _ => faP fa33_0 rfl) rfl, oP (fun _ => ldP rfl sz3 ag3 rfl) rfl, oP (fun _ => ixR (l := a0.Of) (lit := (cInt .i64)) sl23 rfl rfl (fun _ => rfl) g2_8.1 g2_8.2) rfl, oP (fun _ => ldC rfl sz3 ag3 rfl) rfl, oP (fun _ => ixR (l := a0.Exit) (lit := (cInt .i64)) sl23 rfl rfl (fun _ => rfl) g2_10.1 g2_10.2) rfl, oP (fun _ => ldC rfl sz3 ag3 rfl) rfl, oP (fun _ => eqI rfl rfl) rfl, oP (fun _ => mvV rfl) rfl, oN rfl (fun _ => rfl) (bn c1) rfl, oN rfl (fun _ => rfl) (bn c1) rfl, oN rfl (fun _ => rfl) (bn c1) rfl, oN rfl (fun _ => rfl) (bn c1) rfl, oP (fun _ => pkFV rfl (bn c1) rfl) rfl, oP (fun _ => asV rfl) rfl, trivial⟩) _ (by exact ⟨cB rfl (mAndF (bn c1)), trivial⟩) (by rfl)
  replace h := h.symm
  subst h
  refine .kf [(4, bo ((a1.Node == (rdl a0.Exit (rdl a0.Of a1.Node))) && (decide ((a1.Stack.length : Int) > 0))))] rfl rfl ?_
  exact .ret rfl
def frames_set.f (a0 : Int) (a1 : Int) (a2 : Bool) (r : Int) : Prop :=
  if a2 = true then ((((0 : Int) ≤ a1)) ∧ r = (bitOp .or .u64 a0 (shlI .u64 1 a1))) else ((((0 : Int) ≤ a1)) ∧ r = (bitOp .andNot .u64 a0 (shlI .u64 1 a1)))
theorem frames_set.D {a0 a1 a2 r} (h : frames_set.f a0 a1 a2 r) : D Tryd.prog X (.callH 31 [.val (.int .u64 a0), .val (.int .i64 a1), .val (.bool a2)] [] (.val (.int .u64 r)) []) := by
  unfold frames_set.f at h
  refine .enter 16 0 fn31 rfl rfl rfl <| .seq <| .reg0 rfl (.op 0 rfl (asV rfl) <| .nil0) <| .seq <| .seq <| .reg0 rfl (.op 0 rfl (mvV rfl) <| .nil0) ?_
  by_cases c1 : a2 = true
  · rw [if_pos c1] at h
    refine .condT rfl c1 <| .seq ?_
    obtain ⟨g3_2, h⟩ := h
    refine .reg0 rfl (.m rfl <| .m rfl <| .o (shl_ rfl rfl g3_2) <| .o (orI rfl rfl) <| .a rfl <| .nil0) ?_
    replace h := h.symm
    subst h
    refine .kf [(6, u6 (bitOp .or .u64 a0 (shlI .u64 1 a1)))] rfl rfl ?_
    exact .ret rfl
  · rw [if_neg c1] at h
    refine .condF rfl (nb c1) <| .skip <| .seq ?_
    obtain ⟨g4_2, h⟩ := h
    refine .reg0 rfl (.m rfl <| .m rfl <| .o (shl_ rfl rfl g4_2) <| .o (andNotI rfl rfl) <| .a rfl <| .nil0) ?_
    replace h := h.symm
    subst h
    refine .kf [(6, u6 (bitOp .andNot .u64 a0 (shlI .u64 1 a1)))] rfl rfl ?_
    exact .ret rfl
def slices_Clone_int64_o0.f (a0 : List Int) (r : (List Int)) : Prop :=
  if a0.length = 0 then (∀ (z_ : Option Addr) (k_ : Nat), if z_.isNone = true then (r = []) else (((Fits (0 + 0) 8)) ∧ r = [])) else (((Fits (0 + a0.length) 8)) ∧ r = a0)
theorem slices_Clone_int64_o0.D {a0 r} (h : slices_Clone_int64_o0.f a0 r) : D Tryd.prog X (.callH 21 [.rows (a0.map (cInt .i64))] [] (.own 0 r.length) [⟨1, r.map (cInt .i64), 0, none⟩]) := by
  unfold slices_Clone_int64_o0.f at h
  by_cases c0_ : a0.length = 0
  · rw [if_pos c0_] at h
    have e0_ := List.eq_nil_of_length_eq_zero c0_
    subst e0_
    refine .nilQ [] [] fun z_ k_ => ?_
    replace h := h z_ k_
    refine .enter 8 0 fn21 rfl rfl rfl <| .seq <| .reg0 rfl (.op 0 rfl (asV rfl) <| .nil0) <| .seq <| .seq <| .reg0 rfl (.op 0 rfl (mvV rfl) <| .op 0 rfl (eqEN un30 rfl rfl) <| .nil0) ?_
    by_cases c1 : z_.isNone = true
    · rw [if_pos c1] at h
      refine .condT rfl c1 <| .seq <| .reg0 rfl (.op 0 rfl (asV rfl) <| .nil0) ?_
      replace h := h.symm
      subst h
      refine .room 1 <| .keepL [0] [(2, .own 0 0)] [⟨1, [].map (cInt .i64), 0, none⟩] (by decide) (by decide) ⟨.nilOwn, trivial⟩ ⟨⟨_, rfl, bcRow (l := []) sl30 (Nat.le_refl _) rfl⟩, trivial⟩ ?_
      exact .ret rfl
    · rw [if_neg c1] at h
      refine .condF rfl (nb c1) <| .skip <| .seq ?_
      obtain ⟨g4_2, h⟩ := h
      refine .room 0 <| .room 0 <| .reg0 rfl (.op 0 rfl (bldL (s := 1) (cs := []) un30 sz2 ze2 ⟨by decide, rfl, by decide⟩ rfl rfl rfl rfl) <| .op 0 rfl (mvV rfl) <| .op 0 rfl (apL (l := []) [] sl30 rfl rfl rfl (Nat.zero_le _) rfl g4_2) <| .op 0 rfl (asO rfl) <| .nil0) ?_
      replace h := h.symm
      subst h
      refine .keepL [0] [(2, .own 0 0)] [⟨1, [].map (cInt .i64), 0, none⟩] (by decide) (by decide) ⟨.own rfl, trivial⟩ ⟨⟨_, rfl, bcRow (l := []) sl30 (Nat.le_refl _) rfl⟩, trivial⟩ ?_
      exact .ret rfl
  · rw [if_neg c0_] at h
    refine .enter 8 0 fn21 rfl rfl rfl <| .seq <| .reg0 rfl (.op 0 rfl (asV rfl) <| .nil0) <| .seq <| .seq <| .reg0 rfl (.op 0 rfl (mvR rfl) <| .op 0 rfl (eqRN c0_ un30 rfl rfl) <| .nil0) <| .condF rfl rfl <| .skip <| .seq ?_
    obtain ⟨g7_2, h⟩ := h
    refine .room 0 <| .room 0 <| .reg0 rfl (.op 0 rfl (bldL (s := 1) (cs := []) un30 sz2 ze2 ⟨by decide, rfl, by decide⟩ rfl rfl rfl rfl) <| .op 0 rfl (mvR rfl) <| .op 0 rfl (apL (l := []) a0 sl30 rfl rfl rfl (Nat.zero_le _) rfl g7_2) <| .op 0 rfl (asO rfl) <| .nil0) ?_
    replace h := h.symm
    subst h
    refine .keepL [0] [(2, .own 0 a0.length)] [⟨1, a0.map (cInt .i64), 0, none⟩] (by decide) (by decide) ⟨.own rfl, trivial⟩ ⟨⟨_, rfl, bcRow (l := a0) sl30 (Nat.le_refl _) rfl⟩, trivial⟩ ?_
    exact .ret rfl
end Go.RM.Tryd
