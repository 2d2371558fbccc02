/- GD, for the statement FramesReached: what it needs, no more. -/
import Derived.Test.YtcogffeinodfaaaGreatDoorZFramesReachedGC
set_option linter.unusedVariables false
set_option maxRecDepth 8000
set_option maxHeartbeats 4000000
namespace Go.RM.Tryz
open Go.RM Go.Proofs
def slices_IndexFunc_Sink.b1 (a0 : List TSink) (a1 : TSink → Bool → Prop) : Int → Rnd Int Unit Int → Prop := fun x1 z1 => if x1 < (a0.length : Int) then (((InR x1 a0.length)) ∧ ∃ t15_5 : Bool, (a1 (rdl a0 x1) t15_5) ∧ if t15_5 = true then (z1 = .ret x1) else (z1 = .next (IntKind.i64.wrap (x1 + 1)))) else (z1 = .exit ())
def slices_IndexFunc_Sink.f (a0 : List TSink) (a1 : TSink → Bool → Prop) (r : Int) : Prop :=
  ∃ o1 : Fin Unit Int, Loop (slices_IndexFunc_Sink.b1 a0 a1) 0 o1 ∧ o1.on (fun _ => r = (-1)) (fun r_ => r = r_)
abbrev GD_c0 : List PV := [i6 0, i6 0, i6 0, i6 0, i6 0, i6 0, i6 0]
theorem slices_IndexFunc_Sink.D {a0 : List TSink} {a1 : TSink → Bool → Prop} {r : Int} {c1_ : FuncId} {k1_ : List PV} (hg1_ : isGo Tryz.prog c1_ = true) (hk1_ : PV.free deep (.clo c1_ k1_) = true) (hka1_ : k1_.all (PV.free deep) = true) (hq1_ : ∀ x0_ y_, a1 x0_ y_ → D Tryz.prog X (.callH c1_ ([.agg (TSink.lit x0_)] ++ k1_) [] (.val (.bool y_)) [])) (h : slices_IndexFunc_Sink.f a0 a1 r) : D Tryz.prog X (.callH 72 [.rows (a0.map TSink.cells), .clo c1_ k1_] [] (.val (.int .i64 r)) []) := by
  unfold slices_IndexFunc_Sink.f at h
  refine .enter 19 0 fn72 q q q<|.seq<|.reg0 q (.o (asV q)<|.nil0)<|.seq<|.seq<|.reg0 q (.o (mvR q)<|.o (lnR (l := a0) sl27 q)<|.o (mvV q)<|.nil0)<|.block<|.keepL [] [(0, .rows (a0.map TSink.cells)), (1, .clo c1_ k1_), (7, i6 (a0.length : Int)), (8, i6 0)] [] (by decide) (by decide) ⟨.free q q, .free q hk1_, .free q q, .free q q, trivial⟩ trivial ?_
  obtain ⟨o1, hL1, h⟩ := h
  refine .loopB (slices_IndexFunc_Sink.b1 a0 a1) (fun x1 => listEnv [(0, .rows (a0.map TSink.cells)), (1, .clo c1_ k1_), (7, i6 (a0.length : Int)), (8, i6 x1)]) (fun x1 => []) (fun _ => listEnv []) (fun _ => []) hL1 (fun r_ => r = r_) ?_ ?_ ?_
  · rintro ⟨⟩ rfl
    try dsimp only [Fin.on] at h
    refine .seq<|.reg0 q (.o (asV q)<|.nil0) ?_
    replace h := h.symm
    subst h
    refine .kf [(4, i6 (-1))] q q ?_
    exact .ret q
  · rintro r_ rfl
    exact h
  · rintro x1 z1 h hn1 hx1 hr1
    dsimp only [slices_IndexFunc_Sink.b1] at h
    refine .seq<|.reg0 q (.o (ltI q q)<|.nil0)<|.seq ?_
    by_cases c5 : x1 < (a0.length : Int)
    · rw [if_pos c5] at h
      refine .condT q (dt c5)<|.skip<|.seq<|.block<|.seq<|.reg0 q (.o (mvV q)<|.o (asV q)<|.nil0)<|.seq ?_
      obtain ⟨g15_3, h⟩ := h
      obtain ⟨t15_5, g15_5, h⟩ := h
      refine .reg0 q (.o (mvF q)<|.o (mvR q)<|.m q<|.o (ixR (l := a0) (lit := TSink.lit) sl27 q q (fun _ => q) g15_3.1 g15_3.2)<|.o (ldCG q sz67 ag67 q)<|.callI q (callee_of q hg1_ q) (.pure (allCons q hka1_) q (hq1_ _ _ g15_5))<|.nil0) ?_
      by_cases c6 : t15_5 = true
      · rw [if_pos c6] at h
        refine .condT q c6<|.seq<|.reg0 q (.o (mvV q)<|.o (asV q)<|.nil0) ?_
        have q3 := hr1 _ h
        replace q3 := q3.symm
        subst q3
        refine .kf [(4, i6 x1)] q q ?_
        exact .ret q
      · rw [if_neg c6] at h
        refine .condF q (nb c6)<|.skip<|.inBlock<|.reg0 q (.o (addI q q)<|.o (mvV q)<|.nil0)<|.k [(0, .rows (a0.map TSink.cells)), (1, .clo c1_ k1_), (7, i6 (a0.length : Int)), (8, i6 (IntKind.i64.wrap (x1 + 1)))] ⟨.free q q, .free q hk1_, .free q q, .free q q, trivial⟩ ?_
        exact hn1 _ h
    · rw [if_neg c5] at h
      refine .condF q (df c5)<|.exit q<|.keepL [] [] [] (by decide) (by decide) trivial trivial ?_
      exact hx1 _ h
def slices_ContainsFunc_Sink.f (a0 : List TSink) (a1 : TSink → Bool → Prop) (r : Bool) : Prop :=
  ∃ t2_2 : Int, (slices_IndexFunc_Sink.f a0 a1 t2_2) ∧ r = (decide (t2_2 ≥ 0))
theorem slices_ContainsFunc_Sink.D {a0 : List TSink} {a1 : TSink → Bool → Prop} {r : Bool} {c1_ : FuncId} {k1_ : List PV} (hg1_ : isGo Tryz.prog c1_ = true) (hk1_ : PV.free deep (.clo c1_ k1_) = true) (hka1_ : k1_.all (PV.free deep) = true) (hq1_ : ∀ x0_ y_, a1 x0_ y_ → D Tryz.prog X (.callH c1_ ([.agg (TSink.lit x0_)] ++ k1_) [] (.val (.bool y_)) [])) (h : slices_ContainsFunc_Sink.f a0 a1 r) : D Tryz.prog X (.callH 46 [.rows (a0.map TSink.cells), .clo c1_ k1_] [] (.val (.bool r)) []) := by
  unfold slices_ContainsFunc_Sink.f at h
  refine .enter 9 0 fn46 q q q<|.seq<|.reg0 q (.o (asV q)<|.nil0)<|.seq ?_
  obtain ⟨t2_2, g2_2, h⟩ := h
  refine .reg0 q (.o (mvR q)<|.o (mvF q)<|.callI q (callee_of q go72 q) (.pure (allCons q (allCons hk1_ q)) q (slices_IndexFunc_Sink.D hg1_ hk1_ hka1_ hq1_ g2_2))<|.o (geI q q)<|.a q<|.nil0) ?_
  replace h := h.symm
  subst h
  refine .kf [(4, bo (decide (t2_2 ≥ 0)))] q q ?_
  exact .ret q
def graph_Check_2.f (a0 : TSink) (f0 : TGraph) (r : Bool) : Prop :=
  ∃ t2_5 : Bool, (graph_in.f a0.Node (f0.Of.length : Int) t2_5) ∧ ∃ t2_13 : Bool, ((t2_5 = true) → graph_in.f a0.X (f0.Vars.length : Int) t2_13) ∧ r = ((!t2_5) || (!t2_13))
theorem graph_Check_2.D {a0 f0 r} (h : graph_Check_2.f a0 f0 r) : D Tryz.prog X (.callH 47 [.agg (TSink.lit a0), .cptr (TGraph.lit f0) 0] [] (.val (.bool r)) []) := by
  unfold graph_Check_2.f at h
  refine .enter 20 0 fn47 q q q<|.seq<|.room 0<|.reg0 q (.o (bxP (s := 2) (cs := (TSink.lit a0)) q ⟨q, by decide, q⟩ q)<|.o (asV q)<|.nil0)<|.seq ?_
  obtain ⟨t2_5, g2_5, h⟩ := h
  obtain ⟨t2_13, g2_13, h⟩ := h
  refine .reg0 (e1 := listEnv [(3, bo ((!t2_5) || (!t2_13)))]) (H1 := [⟨2, [(TSink.lit a0)], 0, none⟩]) q ?_ ?_
  · refine .o (faP fa67_1 q)<|.o (ldP q sz3 ag3 q)<|.o (faC fa29_5 q)<|.o (ldC q sz23 ag23 q)<|.o (lnR (l := f0.Of) sl23 q)<|.c q go45 q q q (graph_in.D g2_5)<|.o (notB q)<|.m q<|?_
    by_cases c1 : t2_5 = true
    · exact (.g q (bnotF c1) (faP fa67_0 q)<|.g q (bnotF c1) (ldP q sz3 ag3 q)<|.g q (bnotF c1) (faC fa29_0 q)<|.g q (bnotF c1) (ldC q sz22 ag22 q)<|.g q (bnotF c1) (lnR (l := f0.Vars) sl22 q)<|.callI (gT q q q (bnotF c1)) (callee_of q go45 q) (.pure q q (graph_in.D (g2_13 c1)))<|.g q (bnotF c1) (notB q)<|.o (pkFV q (bnotF c1) q)<|.a q<|.nilL _ ⟨cB q (mOrF (bnotF c1) q), trivial⟩)
    · exact (.n q (bnotT (nb c1))<|.n q (bnotT (nb c1))<|.n q (bnotT (nb c1))<|.n q (bnotT (nb c1))<|.n q (bnotT (nb c1))<|.n q (bnotT (nb c1))<|.n q (bnotT (nb c1))<|.o (pkTV q (bnotT (nb c1)) q)<|.a q<|.nilL _ ⟨cB q (mOrT (bnotT (nb c1))), trivial⟩)
  replace h := h.symm
  subst h
  refine .kf [(3, bo ((!t2_5) || (!t2_13)))] q q ?_
  exact .ret q
def graph_Check.j1 (x7 : Int) : (Bool × Int) → (Rnd ((Bool × Int × Int)) ((Bool × Int)) Int) → Prop := fun (x16, x17) z1 => z1 = .next (x16, x17, (IntKind.i64.wrap (x7 + 1)))
def graph_Check.b1 (a0 : TGraph) : (Bool × Int × Int) → Rnd ((Bool × Int × Int)) ((Bool × Int)) Int → Prop := fun (x5, x6, x7) z1 => if (x5 && (decide (x7 < (a0.Steps.length : Int)))) = true then (((InR x7 a0.Steps.length)) ∧ ∃ t46_2 : Bool, (graph_stepRight.f a0 (rdl a0.Steps x7) t46_2) ∧ if (rdl a0.Steps x7).Kind = 8 then (graph_Check.j1 x7 ((t46_2 && ((rdl a0.Steps x7).Site == x6)), (IntKind.i64.wrap (x6 + 1))) z1) else (graph_Check.j1 x7 (t46_2, x6) z1)) else (z1 = .exit (x5, x6))
def graph_Check.f (a0 : TGraph) (r : Int) : Prop :=
  ∃ t2_1 : Bool, (graph_procsRight.f a0 t2_1) ∧ ∃ o1 : Fin ((Bool × Int)) Int, Loop (graph_Check.b1 a0) (t2_1, 0, 0) o1 ∧ o1.on (fun (x12, x13) => ∃ t54_5 : Bool, (((x12 && (x13 == (a0.Sites.length : Int))) = true) → slices_ContainsFunc_Point.f a0.Points (fun x0_ y_ => graph_Check_1.f x0_ a0 y_) t54_5) ∧ ∃ t55_5 : Bool, ((((x12 && (x13 == (a0.Sites.length : Int))) && (!t54_5)) = true) → slices_ContainsFunc_Sink.f a0.Sinks (fun x0_ y_ => graph_Check_2.f x0_ a0 y_) t55_5) ∧ if (((x12 && (x13 == (a0.Sites.length : Int))) && (!t54_5)) && (!t55_5)) = true then (r = 0) else (r = 213)) (fun r_ => r = r_)
theorem graph_Check.D {a0 r} (h : graph_Check.f a0 r) : D Tryz.prog X (.callH 25 [.agg (TGraph.lit a0)] [] (.val (.int .i64 r)) []) := by
  unfold graph_Check.f at h
  refine .enter 65 0 fn25 q q q<|.seq<|.room 0<|.reg0 q (.o (bxP (s := 10) (cs := (TGraph.lit a0)) q ⟨q, by decide, q⟩ q)<|.o (asV q)<|.nil0)<|.seq ?_
  obtain ⟨t2_1, g2_1, h⟩ := h
  refine .reg0 q (.o (ldG q sz29 ag29 q)<|.c q go41 q q q (graph_procsRight.D g2_1)<|.a q<|.nil0)<|.seq<|.reg0 q (.o (asV q)<|.nil0)<|.seq<|.seq<|.reg0 q (.o (asV q)<|.nil0)<|.block<|.keepL [0] [(1, .ptr 0 1 10 0 0), (3, bo t2_1), (4, i6 0), (5, i6 0)] [⟨10, [(TGraph.lit a0)], 0, none⟩] (by decide) (by decide) ⟨.ptr q, .free q q, .free q q, .free q q, trivial⟩ ⟨⟨_, q, bcBox (all2_free q)⟩, trivial⟩ ?_
  obtain ⟨o1, hL1, h⟩ := h
  refine .loopB (graph_Check.b1 a0) (fun (x5, x6, x7) => listEnv [(1, .ptr 0 1 10 0 0), (3, bo x5), (4, i6 x6), (5, i6 x7)]) (fun (x5, x6, x7) => [⟨10, [(TGraph.lit a0)], 0, none⟩]) (fun (x12, x13) => listEnv [(1, .ptr 0 1 10 0 0), (3, bo x12), (4, i6 x13)]) (fun (x12, x13) => [⟨10, [(TGraph.lit a0)], 0, none⟩]) hL1 (fun r_ => r = r_) ?_ ?_ ?_
  · rintro ⟨x12, x13⟩ rfl
    try dsimp only [Fin.on] at h
    refine .seq ?_
    refine .reg0 (e1 := listEnv [(1, .ptr 0 1 10 0 0), (3, bo (x12 && (x13 == (a0.Sites.length : Int))))]) (H1 := [⟨10, [(TGraph.lit a0)], 0, none⟩]) q ?_ ?_
    · refine .m q<|.m q<|?_
      by_cases c31 : x12 = true
      · exact (.g q c31 (mvV q)<|.g q c31 (faP fa29_7 q)<|.g q c31 (ldP q sz25 ag25 q)<|.g q c31 (lnR (l := a0.Sites) sl25 q)<|.g q c31 (eqI q q)<|.o (pkTV q c31 q)<|.a q<|.nilL _ ⟨.ptr q, cB q (mAndT c31 q), trivial⟩)
      · exact (.n q (nb c31)<|.n q (nb c31)<|.n q (nb c31)<|.n q (nb c31)<|.n q (nb c31)<|.o (pkFV q (nb c31) q)<|.a q<|.nilL _ ⟨.ptr q, cB q (mAndF (nb c31)), trivial⟩)
    refine .seq ?_
    obtain ⟨t54_5, g54_5, h⟩ := h
    refine .reg0 (e1 := listEnv [(1, .ptr 0 1 10 0 0), (3, bo ((x12 && (x13 == (a0.Sites.length : Int))) && (!t54_5)))]) (H1 := [⟨10, [(TGraph.lit a0)], 0, none⟩]) q ?_ ?_
    · refine .m q<|.m q<|?_
      by_cases c32 : (x12 && (x13 == (a0.Sites.length : Int))) = true
      · exact (.g q c32 (faP fa29_8 q)<|.g q c32 (ldP q sz26 ag26 q)<|.g q c32 (mkF q)<|.callI (gT q q q c32) (callee_of q go43 q) (.lendC (args' := [.rows (a0.Points.map TPoint.cells), .clo 44 [.cptr (TGraph.lit a0) 0]])  [0] false (.cons (.free q q)<|.cons (cClo (.cons (cFixP q q (.cons (.free q q)<|.cons (.free q q)<|.cons (.free q q)<|.cons (.free q q)<|.cons (.free q q)<|.cons (.free q q)<|.cons (.free q q)<|.cons (.free q q)<|.cons (.free q q)<|.cons (.free q q)<|.nil))<|.nil))<|.nil) (by decide) q q q q (slices_ContainsFunc_Point.D (k1_ := [.cptr (TGraph.lit a0) 0]) go44 q q (fun x0_ y_ h_ => graph_Check_1.D h_) (g54_5 c32)))<|.g q c32 (notB q)<|.o (pkTV q c32 q)<|.a q<|.nilL _ ⟨.ptr q, cB q (mAndT c32 q), trivial⟩)
      · exact (.n q (nb c32)<|.n q (nb c32)<|.n q (nb c32)<|.n q (nb c32)<|.n q (nb c32)<|.o (pkFV q (nb c32) q)<|.a q<|.nilL _ ⟨.ptr q, cB q (mAndF (nb c32)), trivial⟩)
    refine .seq ?_
    obtain ⟨t55_5, g55_5, h⟩ := h
    refine .reg0 (e1 := listEnv [(3, bo (((x12 && (x13 == (a0.Sites.length : Int))) && (!t54_5)) && (!t55_5)))]) (H1 := [⟨10, [(TGraph.lit a0)], 0, none⟩]) q ?_ ?_
    · refine .m q<|.m q<|?_
      by_cases c33 : ((x12 && (x13 == (a0.Sites.length : Int))) && (!t54_5)) = true
      · exact (.g q c33 (faP fa29_9 q)<|.g q c33 (ldP q sz27 ag27 q)<|.g q c33 (mkF q)<|.callI (gT q q q c33) (callee_of q go46 q) (.lendC (args' := [.rows (a0.Sinks.map TSink.cells), .clo 47 [.cptr (TGraph.lit a0) 0]])  [0] false (.cons (.free q q)<|.cons (cClo (.cons (cFixP q q (.cons (.free q q)<|.cons (.free q q)<|.cons (.free q q)<|.cons (.free q q)<|.cons (.free q q)<|.cons (.free q q)<|.cons (.free q q)<|.cons (.free q q)<|.cons (.free q q)<|.cons (.free q q)<|.nil))<|.nil))<|.nil) (by decide) q q q q (slices_ContainsFunc_Sink.D (k1_ := [.cptr (TGraph.lit a0) 0]) go47 q q (fun x0_ y_ h_ => graph_Check_2.D h_) (g55_5 c33)))<|.g q c33 (notB q)<|.o (pkTV q c33 q)<|.a q<|.nilL _ ⟨cB q (mAndT c33 q), trivial⟩)
      · exact (.n q (nb c33)<|.n q (nb c33)<|.n q (nb c33)<|.n q (nb c33)<|.n q (nb c33)<|.o (pkFV q (nb c33) q)<|.a q<|.nilL _ ⟨cB q (mAndF (nb c33)), trivial⟩)
    refine .seq<|.seq<|.reg0 q (.o (mvV q)<|.o (notB q)<|.nil0) ?_
    by_cases c34 : (((x12 && (x13 == (a0.Sites.length : Int))) && (!t54_5)) && (!t55_5)) = true
    · rw [if_pos c34] at h
      refine .condF q (bnotF c34)<|.skip<|.seq<|.reg0 q (.o (asV q)<|.nil0) ?_
      replace h := h.symm
      subst h
      refine .kf [(2, i6 0)] q q ?_
      exact .ret q
    · rw [if_neg c34] at h
      refine .condT q (bnotT (nb c34))<|.seq<|.reg0 q (.o (asV q)<|.nil0) ?_
      replace h := h.symm
      subst h
      refine .kf [(2, i6 213)] q q ?_
      exact .ret q
  · rintro r_ rfl
    exact h
  · rintro ⟨x5, x6, x7⟩ z1 h hn1 hx1 hr1
    dsimp only [graph_Check.b1] at h
    refine .seq<|.seq ?_
    refine .reg0 (e1 := listEnv [(1, .ptr 0 1 10 0 0), (3, bo x5), (4, i6 x6), (5, i6 x7), (16, bo (x5 && (decide (x7 < (a0.Steps.length : Int)))))]) (H1 := [⟨10, [(TGraph.lit a0)], 0, none⟩]) q ?_ ?_
    · refine .m q<|.m q<|?_
      by_cases c21 : x5 = true
      · exact (.g q c21 (mvV q)<|.g q c21 (faP fa29_6 q)<|.g q c21 (ldP q sz24 ag24 q)<|.g q c21 (lnR (l := a0.Steps) sl24 q)<|.g q c21 (ltI q q)<|.o (pkTV q c21 q)<|.nilL _ ⟨.ptr q, .free q q, .free q q, .free q q, cB q (mAndT c21 q), trivial⟩)
      · exact (.n q (nb c21)<|.n q (nb c21)<|.n q (nb c21)<|.n q (nb c21)<|.n q (nb c21)<|.o (pkFV q (nb c21) q)<|.nilL _ ⟨.ptr q, .free q q, .free q q, .free q q, cB q (mAndF (nb c21)), trivial⟩)
    by_cases c22 : (x5 && (decide (x7 < (a0.Steps.length : Int)))) = true
    · rw [if_pos c22] at h
      refine .condT q c22<|.skip<|.seq<|.block<|.seq ?_
      obtain ⟨g45_3, h⟩ := h
      refine .room 0<|.reg0 q (.o (faP fa29_6 q)<|.o (ldP q sz24 ag24 q)<|.o (mvV q)<|.o (ixR (l := a0.Steps) (lit := TStep.lit) sl24 q q (fun _ => q) g45_3.1 g45_3.2)<|.o (ldCG q sz65 ag65 q)<|.op 1 q (alP (s := 7) ze65 ⟨q, by decide, q⟩ q)<|.o (stB (cs0 := GD_c0) (cs := (TStep.lit (rdl a0.Steps x7))) (cs1 := (TStep.lit (rdl a0.Steps x7))) q q sz65 q ⟨Nat.le_of_ble_eq_true q, q⟩ q)<|.nil0) ?_
      refine .seq ?_
      obtain ⟨t46_2, g46_2, h⟩ := h
      refine .reg0 q (.o (ldG q sz29 ag29 q)<|.o (ldG q sz65 ag65 q)<|.c q go42 q q q (graph_stepRight.D g46_2)<|.a q<|.nil0)<|.seq<|.reg0 q (.o (faP fa65_2 q)<|.o (ldP q sz63 ag63 q)<|.o (eqI q q)<|.nil0) ?_
      refine .consJ (fun s_ => graph_Check.j1 x7 s_ z1) (fun (x16, x17) => listEnv [(1, .ptr 0 1 10 0 0), (3, bo x16), (4, i6 x17), (5, i6 x7)]) (fun (x16, x17) => [⟨10, [(TGraph.lit a0)], 0, none⟩]) ?_ fun hJ1 => ?_
      · rintro ⟨x16, x17⟩ h
        unfold graph_Check.j1 at h
        try dsimp only at h
        refine .inBlock<|.reg0 q (.o (mvV q)<|.o (addI q q)<|.o (asV q)<|.nil0)<|.keepL [0] [(1, .ptr 0 1 10 0 0), (3, bo x16), (4, i6 x17), (5, i6 (IntKind.i64.wrap (x7 + 1)))] [⟨10, [(TGraph.lit a0)], 0, none⟩] (by decide) (by decide) ⟨.ptr q, .free q q, .free q q, .free q q, trivial⟩ ⟨⟨_, q, bcBox (all2_free q)⟩, trivial⟩ ?_
        exact hn1 _ h
      · by_cases c29 : (rdl a0.Steps x7).Kind = 8
        · rw [if_pos c29] at h
          refine .condT q (bt c29)<|.seq ?_
          refine .reg0 (e1 := listEnv [(1, .ptr 0 1 10 0 0), (3, bo (t46_2 && ((rdl a0.Steps x7).Site == x6))), (4, i6 x6), (5, i6 x7)]) (H1 := [⟨10, [(TGraph.lit a0)], 0, none⟩, ⟨7, [(TStep.lit (rdl a0.Steps x7))], 0, none⟩]) q ?_ ?_
          · refine .m q<|.m q<|?_
            by_cases c30 : t46_2 = true
            · exact (.g q c30 (faP fa65_6 q)<|.g q c30 (ldP q sz3 ag3 q)<|.g q c30 (mvV q)<|.g q c30 (eqI q q)<|.o (pkTV q c30 q)<|.a q<|.nilL _ ⟨.ptr q, cB q (mAndT c30 q), .free q q, .free q q, trivial⟩)
            · exact (.n q (nb c30)<|.n q (nb c30)<|.n q (nb c30)<|.n q (nb c30)<|.o (pkFV q (nb c30) q)<|.a q<|.nilL _ ⟨.ptr q, cB q (mAndF (nb c30)), .free q q, .free q q, trivial⟩)
          refine .reg0 q (.m q<|.o (addI q q)<|.a q<|.nil0)<|.keepL [0] [(1, .ptr 0 1 10 0 0), (3, bo (t46_2 && ((rdl a0.Steps x7).Site == x6))), (4, i6 (IntKind.i64.wrap (x6 + 1))), (5, i6 x7)] [⟨10, [(TGraph.lit a0)], 0, none⟩] (by decide) (by decide) ⟨.ptr q, .free q q, .free q q, .free q q, trivial⟩ ⟨⟨_, q, bcBox (all2_free q)⟩, trivial⟩ ?_
          exact hJ1 _ h
        · rw [if_neg c29] at h
          refine .condF q (bn c29)<|.skip<|.keepL [0] [(1, .ptr 0 1 10 0 0), (3, bo t46_2), (4, i6 x6), (5, i6 x7)] [⟨10, [(TGraph.lit a0)], 0, none⟩] (by decide) (by decide) ⟨.ptr q, .free q q, .free q q, .free q q, trivial⟩ ⟨⟨_, q, bcBox (all2_free q)⟩, trivial⟩ ?_
          exact hJ1 _ h
    · rw [if_neg c22] at h
      refine .condF q (nb c22)<|.exit q<|.keepL [0] [(1, .ptr 0 1 10 0 0), (3, bo x5), (4, i6 x6)] [⟨10, [(TGraph.lit a0)], 0, none⟩] (by decide) (by decide) ⟨.ptr q, .free q q, .free q q, trivial⟩ ⟨⟨_, q, bcBox (all2_free q)⟩, trivial⟩ ?_
      exact hx1 _ h
def frames_Check.b1 (a0 : TGraph) (a1 : TState) : (Int × Int) → Rnd ((Int × Int)) Unit Int → Prop := fun (x1, x2) z1 => if x2 < (a1.Stack.length : Int) then (((InR x2 a1.Stack.length)) ∧ (¬ ((rdl a1.Stack x2) < 0) → ¬ ((rdl a1.Stack x2) ≥ (a0.Sites.length : Int)) → (InR (rdl a1.Stack x2) a0.Sites.length)) ∧ if ((decide ((rdl a1.Stack x2) < 0)) || ((decide ((rdl a1.Stack x2) ≥ (a0.Sites.length : Int))) || ((rdl a0.Sites (rdl a1.Stack x2)).Proc != x1))) = true then (z1 = .ret 220) else (((InR (rdl a1.Stack x2) a0.Sites.length)) ∧ ((InR ((rdl a0.Sites (rdl a1.Stack x2)).From) a0.Of.length)) ∧ z1 = .next ((rdl a0.Of ((rdl a0.Sites (rdl a1.Stack x2)).From)), (IntKind.i64.wrap (x2 + 1))))) else (z1 = .exit ())
def frames_Check.f (a0 : TGraph) (a1 : TState) (r : Int) : Prop :=
  ∃ t2_1 : Int, (graph_Check.f a0 t2_1) ∧ if t2_1 = 0 then ((¬ (a1.Node < 0) → ¬ (a1.Node ≥ (a0.Of.length : Int)) → ((a1.Env.length : Int) = (a0.Vars.length : Int)) → ((a0.Vars.length : Int) < 64) → ((0 : Int) ≤ (a0.Vars.length : Int))) ∧ if ((decide (a1.Node < 0)) || ((decide (a1.Node ≥ (a0.Of.length : Int))) || ((!((a1.Env.length : Int) == (a0.Vars.length : Int))) || (bif (decide ((a0.Vars.length : Int) < 64)) then ((!((shrI .u64 a1.Marks (a0.Vars.length : Int)) == 0)) || (decide ((a1.Stack.length : Int) > 4096))) else (decide ((a1.Stack.length : Int) > 4096)))))) = true then (r = 220) else (((InR a1.Node a0.Of.length)) ∧ ∃ o1 : Fin Unit Int, Loop (frames_Check.b1 a0 a1) ((rdl a0.Of a1.Node), 0) o1 ∧ o1.on (fun _ => r = 0) (fun r_ => r = r_))) else (r = t2_1)
theorem frames_Check.D {a0 a1 r} (h : frames_Check.f a0 a1 r) : D Tryz.prog X (.callH 16 [.agg (TGraph.lit a0), .agg (TState.lit a1)] [] (.val (.int .i64 r)) []) := by
  unfold frames_Check.f at h
  refine .enter 98 0 fn16 q q q<|.seq<|.room 0<|.room 0<|.reg0 q (.o (bxP (s := 10) (cs := (TGraph.lit a0)) q ⟨q, by decide, q⟩ q)<|.op 1 q (bxP (s := 4) (cs := (TState.lit a1)) q ⟨q, by decide, q⟩ q)<|.o (asV q)<|.nil0)<|.seq<|.seq ?_
  obtain ⟨t2_1, g2_1, h⟩ := h
  refine .reg0 q (.o (ldG q sz29 ag29 q)<|.c q go25 q q q (graph_Check.D g2_1)<|.a q<|.nil0)<|.seq<|.reg0 q (.o (mvV q)<|.o (neI q q)<|.nil0) ?_
  by_cases c1 : t2_1 = 0
  · rw [if_pos c1] at h
    refine .condF q (nf c1)<|.skip<|.seq<|.seq ?_
    obtain ⟨g4_31, h⟩ := h
    refine .reg0 (e1 := listEnv [(2, .ptr 0 1 10 0 0), (3, .ptr 1 1 4 0 0), (54, bo ((decide (a1.Node < 0)) || ((decide (a1.Node ≥ (a0.Of.length : Int))) || ((!((a1.Env.length : Int) == (a0.Vars.length : Int))) || (bif (decide ((a0.Vars.length : Int) < 64)) then ((!((shrI .u64 a1.Marks (a0.Vars.length : Int)) == 0)) || (decide ((a1.Stack.length : Int) > 4096))) else (decide ((a1.Stack.length : Int) > 4096)))))))]) (H1 := [⟨10, [(TGraph.lit a0)], 0, none⟩, ⟨4, [(TState.lit a1)], 0, none⟩]) q ?_ ?_
    · refine .o (faP fa33_0 q)<|.o (ldP q sz3 ag3 q)<|.o (ltI q q)<|.m q<|?_
      by_cases c2 : a1.Node < 0
      · exact (.n q (dt c2)<|.n q (dt c2)<|.n q (dt c2)<|.n q (dt c2)<|.n q (dt c2)<|.n q (dt c2)<|.o (pkTV q (dt c2) q)<|.m q<|.n q q<|.n q q<|.n q q<|.n q q<|.n q q<|.n q q<|.n q q<|.o (pkTV q q q)<|.m q<|.n q q<|.n q q<|.n q q<|.n q q<|.n q q<|.u q<|.u q<|.u q<|.u q<|.u q<|.u q<|.u q<|.n q q<|.o (pkTV q q q)<|.m q<|.n q q<|.n q q<|.n q q<|.n q q<|.o (pkTV q q q)<|.nilL _ ⟨.ptr q, .ptr q, cB q (mOrT (dt c2)), trivial⟩)
      · refine .g q (df c2) (faP fa33_0 q)<|.g q (df c2) (ldP q sz3 ag3 q)<|.g q (df c2) (faP fa29_5 q)<|.g q (df c2) (ldP q sz23 ag23 q)<|.g q (df c2) (lnR (l := a0.Of) sl23 q)<|.g q (df c2) (geI q q)<|.o (pkFV q (df c2) q)<|.m q<|?_
        by_cases c3 : a1.Node ≥ (a0.Of.length : Int)
        · exact (.n q (dt c3)<|.n q (dt c3)<|.n q (dt c3)<|.n q (dt c3)<|.n q (dt c3)<|.n q (dt c3)<|.n q (dt c3)<|.o (pkTV q (dt c3) q)<|.m q<|.n q q<|.n q q<|.n q q<|.n q q<|.n q q<|.u q<|.u q<|.u q<|.u q<|.u q<|.u q<|.u q<|.n q q<|.o (pkTV q q q)<|.m q<|.n q q<|.n q q<|.n q q<|.n q q<|.o (pkTV q q q)<|.nilL _ ⟨.ptr q, .ptr q, cB q (mOrF (df c2) (mOrT (dt c3))), trivial⟩)
        · refine .g q (df c3) (faP fa33_1 q)<|.g q (df c3) (ldP q sz30 ag30 q)<|.g q (df c3) (lnR (l := a1.Env) sl30 q)<|.g q (df c3) (faP fa29_0 q)<|.g q (df c3) (ldP q sz22 ag22 q)<|.g q (df c3) (lnR (l := a0.Vars) sl22 q)<|.g q (df c3) (neI q q)<|.o (pkFV q (df c3) q)<|.m q<|?_
          by_cases c4 : (a1.Env.length : Int) = (a0.Vars.length : Int)
          · refine .g q (nf c4) (faP fa29_0 q)<|.g q (nf c4) (ldP q sz22 ag22 q)<|.g q (nf c4) (lnR (l := a0.Vars) sl22 q)<|.g q (nf c4) (ltI q q)<|.g q (nf c4) (mvV q)<|?_
            by_cases c5 : (a0.Vars.length : Int) < 64
            · refine .g q (dt c5) (faP fa33_2 q)<|.g q (dt c5) (ldP q sz31 ag31 q)<|.g q (dt c5) (faP fa29_0 q)<|.g q (dt c5) (ldP q sz22 ag22 q)<|.g q (dt c5) (lnR (l := a0.Vars) sl22 q)<|.g q (dt c5) (shr_ q q (g4_31 c2 c3 c4 c5))<|.g q (dt c5) (neI q q)<|.g q (nf c4) (pkTV q (dt c5) q)<|.o (pkFV q (nf c4) q)<|.m q<|?_
              by_cases c6 : (shrI .u64 a1.Marks (a0.Vars.length : Int)) = 0
              · exact (.g q (nf c6) (faP fa33_3 q)<|.g q (nf c6) (ldP q sz23 ag23 q)<|.g q (nf c6) (lnR (l := a1.Stack) sl23 q)<|.g q (nf c6) (gtI q q)<|.o (pkFV q (nf c6) q)<|.nilL _ ⟨.ptr q, .ptr q, cB q (mOrF (df c2) (mOrF (df c3) (mOrF (bnotF (bt c4)) (mIteT (dt c5) (mOrF (bnotF (bt c6)) q))))), trivial⟩)
              · exact (.n q (nt c6)<|.n q (nt c6)<|.n q (nt c6)<|.n q (nt c6)<|.o (pkTV q (nt c6) q)<|.nilL _ ⟨.ptr q, .ptr q, cB q (mOrF (df c2) (mOrF (df c3) (mOrF (bnotF (bt c4)) (mIteT (dt c5) (mOrT (bnotT (bn c6))))))), trivial⟩)
            · exact (.n q (df c5)<|.n q (df c5)<|.n q (df c5)<|.n q (df c5)<|.n q (df c5)<|.n q (df c5)<|.n q (df c5)<|.g q (nf c4) (pkFV q (df c5) q)<|.o (pkFV q (nf c4) q)<|.m q<|.g q q (faP fa33_3 q)<|.g q q (ldP q sz23 ag23 q)<|.g q q (lnR (l := a1.Stack) sl23 q)<|.g q q (gtI q q)<|.o (pkFV q q q)<|.nilL _ ⟨.ptr q, .ptr q, cB q (mOrF (df c2) (mOrF (df c3) (mOrF (bnotF (bt c4)) (mIteF (df c5) q)))), trivial⟩)
          · exact (.n q (nt c4)<|.n q (nt c4)<|.n q (nt c4)<|.n q (nt c4)<|.n q (nt c4)<|.u q<|.u q<|.u q<|.u q<|.u q<|.u q<|.u q<|.n q (nt c4)<|.o (pkTV q (nt c4) q)<|.m q<|.n q q<|.n q q<|.n q q<|.n q q<|.o (pkTV q q q)<|.nilL _ ⟨.ptr q, .ptr q, cB q (mOrF (df c2) (mOrF (df c3) (mOrT (bnotT (bn c4))))), trivial⟩)
    by_cases c7 : ((decide (a1.Node < 0)) || ((decide (a1.Node ≥ (a0.Of.length : Int))) || ((!((a1.Env.length : Int) == (a0.Vars.length : Int))) || (bif (decide ((a0.Vars.length : Int) < 64)) then ((!((shrI .u64 a1.Marks (a0.Vars.length : Int)) == 0)) || (decide ((a1.Stack.length : Int) > 4096))) else (decide ((a1.Stack.length : Int) > 4096)))))) = true
    · rw [if_pos c7] at h
      refine .condT q c7<|.seq<|.reg0 q (.o (asV q)<|.nil0) ?_
      replace h := h.symm
      subst h
      refine .kf [(4, i6 220)] q q ?_
      exact .ret q
    · rw [if_neg c7] at h
      refine .condF q (nb c7)<|.skip<|.seq ?_
      obtain ⟨g6_4, h⟩ := h
      refine .reg0 q (.o (faP fa29_5 q)<|.o (ldP q sz23 ag23 q)<|.o (faP fa33_0 q)<|.o (ldP q sz3 ag3 q)<|.o (ixR (l := a0.Of) (lit := (cInt .i64)) sl23 q q (fun _ => q) g6_4.1 g6_4.2)<|.o (ldC q sz3 ag3 q)<|.a q<|.nil0)<|.seq<|.seq<|.reg0 q (.o (faP fa33_3 q)<|.o (ldP q sz23 ag23 q)<|.o (lnR (l := a1.Stack) sl23 q)<|.o (mvV q)<|.nil0) ?_
      refine .block<|.keepL [0] [(2, .ptr 0 1 10 0 0), (6, i6 (rdl a0.Of a1.Node)), (62, .rows (a1.Stack.map (cInt .i64))), (63, i6 (a1.Stack.length : Int)), (64, i6 0)] [⟨10, [(TGraph.lit a0)], 0, none⟩] (by decide) (by decide) ⟨.ptr q, .free q q, .free q q, .free q q, .free q q, trivial⟩ ⟨⟨_, q, bcBox (all2_free q)⟩, trivial⟩ ?_
      obtain ⟨o1, hL1, h⟩ := h
      refine .loopB (frames_Check.b1 a0 a1) (fun (x1, x2) => listEnv [(2, .ptr 0 1 10 0 0), (6, i6 x1), (62, .rows (a1.Stack.map (cInt .i64))), (63, i6 (a1.Stack.length : Int)), (64, i6 x2)]) (fun (x1, x2) => [⟨10, [(TGraph.lit a0)], 0, none⟩]) (fun _ => listEnv []) (fun _ => []) hL1 (fun r_ => r = r_) ?_ ?_ ?_
      · rintro ⟨⟩ rfl
        try dsimp only [Fin.on] at h
        refine .seq<|.reg0 q (.o (asV q)<|.nil0) ?_
        replace h := h.symm
        subst h
        refine .kf [(4, i6 0)] q q ?_
        exact .ret q
      · rintro r_ rfl
        exact h
      · rintro ⟨x1, x2⟩ z1 h hn1 hx1 hr1
        dsimp only [frames_Check.b1] at h
        refine .seq<|.reg0 q (.o (ltI q q)<|.nil0)<|.seq ?_
        by_cases c16 : x2 < (a1.Stack.length : Int)
        · rw [if_pos c16] at h
          refine .condT q (dt c16)<|.skip<|.seq<|.block<|.seq ?_
          obtain ⟨g21_0, h⟩ := h
          refine .reg0 q (.o (ixR (l := a1.Stack) (lit := (cInt .i64)) sl23 q q (fun _ => q) g21_0.1 g21_0.2)<|.o (ldC q sz3 ag3 q)<|.a q<|.nil0)<|.seq<|.seq ?_
          obtain ⟨g22_13, h⟩ := h
          refine .reg0 (e1 := listEnv [(2, .ptr 0 1 10 0 0), (8, i6 (rdl a1.Stack x2)), (62, .rows (a1.Stack.map (cInt .i64))), (63, i6 (a1.Stack.length : Int)), (64, i6 x2), (86, bo ((decide ((rdl a1.Stack x2) < 0)) || ((decide ((rdl a1.Stack x2) ≥ (a0.Sites.length : Int))) || ((rdl a0.Sites (rdl a1.Stack x2)).Proc != x1))))]) (H1 := [⟨10, [(TGraph.lit a0)], 0, none⟩]) q ?_ ?_
          · refine .m q<|.o (ltI q q)<|.m q<|?_
            by_cases c17 : (rdl a1.Stack x2) < 0
            · exact (.n q (dt c17)<|.n q (dt c17)<|.n q (dt c17)<|.n q (dt c17)<|.n q (dt c17)<|.o (pkTV q (dt c17) q)<|.m q<|.n q q<|.n q q<|.n q q<|.n q q<|.n q q<|.n q q<|.n q q<|.n q q<|.o (pkTV q q q)<|.nilL _ ⟨.ptr q, .free q q, .free q q, .free q q, .free q q, cB q (mOrT (dt c17)), trivial⟩)
            · refine .g q (df c17) (mvV q)<|.g q (df c17) (faP fa29_7 q)<|.g q (df c17) (ldP q sz25 ag25 q)<|.g q (df c17) (lnR (l := a0.Sites) sl25 q)<|.g q (df c17) (geI q q)<|.o (pkFV q (df c17) q)<|.m q<|?_
              by_cases c18 : (rdl a1.Stack x2) ≥ (a0.Sites.length : Int)
              · exact (.n q (dt c18)<|.n q (dt c18)<|.n q (dt c18)<|.n q (dt c18)<|.n q (dt c18)<|.n q (dt c18)<|.n q (dt c18)<|.n q (dt c18)<|.o (pkTV q (dt c18) q)<|.nilL _ ⟨.ptr q, .free q q, .free q q, .free q q, .free q q, cB q (mOrF (df c17) (mOrT (dt c18))), trivial⟩)
              · exact (.g q (df c18) (faP fa29_7 q)<|.g q (df c18) (ldP q sz25 ag25 q)<|.g q (df c18) (mvV q)<|.g q (df c18) (ixR (l := a0.Sites) (lit := TSite.lit) sl25 q q (fun _ => q) (g22_13 c17 c18).1 (g22_13 c17 c18).2)<|.g q (df c18) (faC fa70_1 q)<|.g q (df c18) (ldC q sz3 ag3 q)<|.g q (df c18) (mvV q)<|.g q (df c18) (neI q q)<|.o (pkFV q (df c18) q)<|.nilL _ ⟨.ptr q, .free q q, .free q q, .free q q, .free q q, cB q (mOrF (df c17) (mOrF (df c18) q)), trivial⟩)
          by_cases c19 : ((decide ((rdl a1.Stack x2) < 0)) || ((decide ((rdl a1.Stack x2) ≥ (a0.Sites.length : Int))) || ((rdl a0.Sites (rdl a1.Stack x2)).Proc != x1))) = true
          · rw [if_pos c19] at h
            refine .condT q c19<|.seq<|.reg0 q (.o (asV q)<|.nil0) ?_
            have q3 := hr1 _ h
            replace q3 := q3.symm
            subst q3
            refine .kf [(4, i6 220)] q q ?_
            exact .ret q
          · rw [if_neg c19] at h
            refine .condF q (nb c19)<|.skip ?_
            obtain ⟨g24_5, h⟩ := h
            obtain ⟨g24_8, h⟩ := h
            refine .reg1 (e1 := listEnv [(2, .ptr 0 1 10 0 0), (6, i6 (rdl a0.Of ((rdl a0.Sites (rdl a1.Stack x2)).From))), (62, .rows (a1.Stack.map (cInt .i64))), (63, i6 (a1.Stack.length : Int)), (64, i6 x2)]) (H1 := [⟨10, [(TGraph.lit a0)], 0, none⟩]) q ?_ ?_
            · exact .drawM [(10, 6, i6 (rdl a0.Of ((rdl a0.Sites (rdl a1.Stack x2)).From))), (9, 96, i6 (rdl a0.Of ((rdl a0.Sites (rdl a1.Stack x2)).From))), (8, 95, .cptr ((cInt .i64) (rdl a0.Of ((rdl a0.Sites (rdl a1.Stack x2)).From))) 0), (7, 94, i6 ((rdl a0.Sites (rdl a1.Stack x2)).From)), (6, 93, .cptr (TSite.lit (rdl a0.Sites (rdl a1.Stack x2))) 2), (5, 92, .cptr (TSite.lit (rdl a0.Sites (rdl a1.Stack x2))) 0), (4, 91, i6 (rdl a1.Stack x2)), (3, 90, .rows (a0.Sites.map TSite.cells)), (2, 89, .ptr 0 1 10 0 7), (1, 88, .rows (a0.Of.map (cInt .i64))), (0, 87, .ptr 0 1 10 0 5)] [] [[], [0], [], [2], [], [3, 2, 4], [5, 3, 2, 4], [6, 5, 3, 2, 4], [1, 0, 7, 6, 5, 3, 2, 4], [8, 1, 0, 7, 6, 5, 3, 2, 4], [9, 8, 1, 0, 7, 6, 5, 3, 2, 4]] (by rfl) (by rfl) (by rfl) (by exact ⟨oP (fun _ => faP fa29_5 q) q, oP (fun _ => ldP q sz23 ag23 q) q, oP (fun _ => faP fa29_7 q) q, oP (fun _ => ldP q sz25 ag25 q) q, oP (fun _ => mvV q) q, oP (fun _ => ixR (l := a0.Sites) (lit := TSite.lit) sl25 q q (fun _ => q) g24_5.1 g24_5.2) q, oP (fun _ => faC fa70_2 q) q, oP (fun _ => ldC q sz3 ag3 q) q, oP (fun _ => ixR (l := a0.Of) (lit := (cInt .i64)) sl23 q q (fun _ => q) g24_8.1 g24_8.2) q, oP (fun _ => ldC q sz3 ag3 q) q, oP (fun _ => asV q) q, trivial⟩) _ (by exact ⟨.ptr q, .free q q, .free q q, .free q q, .free q q, trivial⟩) (by rfl)
            refine .inBlock<|.reg0 q (.o (addI q q)<|.o (mvV q)<|.nil0)<|.keepL [0] [(2, .ptr 0 1 10 0 0), (6, i6 (rdl a0.Of ((rdl a0.Sites (rdl a1.Stack x2)).From))), (62, .rows (a1.Stack.map (cInt .i64))), (63, i6 (a1.Stack.length : Int)), (64, i6 (IntKind.i64.wrap (x2 + 1)))] [⟨10, [(TGraph.lit a0)], 0, none⟩] (by decide) (by decide) ⟨.ptr q, .free q q, .free q q, .free q q, .free q q, trivial⟩ ⟨⟨_, q, bcBox (all2_free q)⟩, trivial⟩ ?_
            exact hn1 _ h
        · rw [if_neg c16] at h
          refine .condF q (df c16)<|.exit q<|.keepL [] [] [] (by decide) (by decide) trivial trivial ?_
          exact hx1 _ h
  · rw [if_neg c1] at h
    refine .condT q (nt c1)<|.seq<|.reg0 q (.o (mvV q)<|.o (asV q)<|.nil0) ?_
    replace h := h.symm
    subst h
    refine .kf [(4, i6 t2_1)] q q ?_
    exact .ret q
def slices_Clone_int64.f (a0 : List Int) (r : (List Int)) : Prop :=
  if a0.length = 0 then (∀ (z_ : Option Addr) (k_ : Nat), if z_.isNone = true then (r = []) else (((Fits (0 + 0) 8)) ∧ r = [])) else (((Fits (0 + a0.length) 8)) ∧ r = a0)
theorem slices_Clone_int64.D {a0 r} (h : slices_Clone_int64.f a0 r) : D Tryz.prog X (.callH 33 [.rows (a0.map (cInt .i64))] [] (.rows (r.map (cInt .i64))) []) := by
  unfold slices_Clone_int64.f at h
  by_cases c0_ : a0.length = 0
  · rw [if_pos c0_] at h
    have e0_ := List.eq_nil_of_length_eq_zero c0_
    subst e0_
    refine .nilQ [] [] fun z_ k_ => ?_
    replace h := h z_ k_
    refine .enter 8 0 fn33 q q q<|.seq<|.reg0 q (.o (asV q)<|.nil0)<|.seq<|.seq<|.reg0 q (.o (mvV q)<|.o (eqEN un30 q q)<|.nil0) ?_
    by_cases c1 : z_.isNone = true
    · rw [if_pos c1] at h
      refine .condT q c1<|.seq<|.reg0 q (.o (asV q)<|.nil0) ?_
      replace h := h.symm
      subst h
      refine .k [(2, .rows (([] : List Int).map (cInt .i64)))] ⟨.nil, trivial⟩ ?_
      exact .ret q
    · rw [if_neg c1] at h
      refine .condF q (nb c1)<|.skip<|.seq ?_
      obtain ⟨g4_2, h⟩ := h
      refine .room 0<|.room 0<|.reg0 q (.o (bldL (s := 1) (cs := []) un30 sz2 ze2 ⟨by decide, q, by decide⟩ q q q q)<|.o (mvV q)<|.o (apL (l := []) [] sl30 q q q (Nat.zero_le _) q g4_2)<|.o (asO q)<|.nil0) ?_
      replace h := h.symm
      subst h
      refine .k [(2, .rows ([].map (cInt .i64)))] ⟨cFixO (l := []) sl30 q q q q, trivial⟩ ?_
      exact .ret q
  · rw [if_neg c0_] at h
    refine .enter 8 0 fn33 q q q<|.seq<|.reg0 q (.o (asV q)<|.nil0)<|.seq<|.seq<|.reg0 q (.o (mvR q)<|.o (eqRN c0_ un30 q q)<|.nil0)<|.condF q q<|.skip<|.seq ?_
    obtain ⟨g7_2, h⟩ := h
    refine .room 0<|.room 0<|.reg0 q (.o (bldL (s := 1) (cs := []) un30 sz2 ze2 ⟨by decide, q, by decide⟩ q q q q)<|.o (mvR q)<|.o (apL (l := []) a0 sl30 q q q (Nat.zero_le _) q g7_2)<|.o (asO q)<|.nil0) ?_
    replace h := h.symm
    subst h
    refine .k [(2, .rows (a0.map (cInt .i64)))] ⟨cFixO (l := a0) sl30 q q q q, trivial⟩ ?_
    exact .ret q
def slices_Clone_int.f (a0 : List Int) (r : (List Int)) : Prop :=
  if a0.length = 0 then (∀ (z_ : Option Addr) (k_ : Nat), if z_.isNone = true then (r = []) else (((Fits (0 + 0) 8)) ∧ r = [])) else (((Fits (0 + a0.length) 8)) ∧ r = a0)
theorem slices_Clone_int.D {a0 r} (h : slices_Clone_int.f a0 r) : D Tryz.prog X (.callH 34 [.rows (a0.map (cInt .i64))] [] (.rows (r.map (cInt .i64))) []) := by
  unfold slices_Clone_int.f at h
  by_cases c0_ : a0.length = 0
  · rw [if_pos c0_] at h
    have e0_ := List.eq_nil_of_length_eq_zero c0_
    subst e0_
    refine .nilQ [] [] fun z_ k_ => ?_
    replace h := h z_ k_
    refine .enter 8 0 fn34 q q q<|.seq<|.reg0 q (.o (asV q)<|.nil0)<|.seq<|.seq<|.reg0 q (.o (mvV q)<|.o (eqEN un23 q q)<|.nil0) ?_
    by_cases c1 : z_.isNone = true
    · rw [if_pos c1] at h
      refine .condT q c1<|.seq<|.reg0 q (.o (asV q)<|.nil0) ?_
      replace h := h.symm
      subst h
      refine .k [(2, .rows (([] : List Int).map (cInt .i64)))] ⟨.nil, trivial⟩ ?_
      exact .ret q
    · rw [if_neg c1] at h
      refine .condF q (nb c1)<|.skip<|.seq ?_
      obtain ⟨g4_2, h⟩ := h
      refine .room 0<|.room 0<|.reg0 q (.o (bldL (s := 1) (cs := []) un23 sz3 ze3 ⟨by decide, q, by decide⟩ q q q q)<|.o (mvV q)<|.o (apL (l := []) [] sl23 q q q (Nat.zero_le _) q g4_2)<|.o (asO q)<|.nil0) ?_
      replace h := h.symm
      subst h
      refine .k [(2, .rows ([].map (cInt .i64)))] ⟨cFixO (l := []) sl23 q q q q, trivial⟩ ?_
      exact .ret q
  · rw [if_neg c0_] at h
    refine .enter 8 0 fn34 q q q<|.seq<|.reg0 q (.o (asV q)<|.nil0)<|.seq<|.seq<|.reg0 q (.o (mvR q)<|.o (eqRN c0_ un23 q q)<|.nil0)<|.condF q q<|.skip<|.seq ?_
    obtain ⟨g7_2, h⟩ := h
    refine .room 0<|.room 0<|.reg0 q (.o (bldL (s := 1) (cs := []) un23 sz3 ze3 ⟨by decide, q, by decide⟩ q q q q)<|.o (mvR q)<|.o (apL (l := []) a0 sl23 q q q (Nat.zero_le _) q g7_2)<|.o (asO q)<|.nil0) ?_
    replace h := h.symm
    subst h
    refine .k [(2, .rows (a0.map (cInt .i64)))] ⟨cFixO (l := a0) sl23 q q q q, trivial⟩ ?_
    exact .ret q
def strconv_FormatInt.f (a0 : Int) (a1 : Int) (r : ByteArray) : Prop := (I64 a0 ∧ a1 = 36) ∧ r = text36 a0
theorem strconv_FormatInt.D {a0 a1 r} (h : strconv_FormatInt.f a0 a1 r) : D Tryz.prog X (.callH 51 [.val (.int .i64 a0), .val (.int .i64 a1)] [] (.val (.string r)) []) := .ext (x_fmt h)
def strconv_Itoa.f (a0 : Int) (r : ByteArray) : Prop := NumOk a0 ∧ r = text10 a0
theorem strconv_Itoa.D {a0 r} (h : strconv_Itoa.f a0 r) : D Tryz.prog X (.callH 52 [.val (.int .i64 a0)] [] (.val (.string r)) []) := .ext (x_itoa h)
def strings_Join.f (a0 : List ByteArray) (a1 : ByteArray) (r : ByteArray) : Prop := JoinOk a0 a1 ∧ r = joinT a0 a1
theorem strings_Join.D {a0 a1 r} (h : strings_Join.f a0 a1 r) : D Tryz.prog X (.callH 53 [.rows (a0.map cStr), .val (.string a1)] [] (.val (.string r)) []) := .ext (x_join h)
def frames_keyed.b1 (a0 : TState) : ((List ByteArray) × Int) → Rnd (((List ByteArray) × Int)) ((List ByteArray)) TKey → Prop := fun (x2, x3) z1 => if x3 < (a0.Env.length : Int) then (((InR x3 a0.Env.length)) ∧ ∃ t14_2 : ByteArray, (strconv_FormatInt.f (rdl a0.Env x3) 36 t14_2) ∧ ((Fits (x2.length + 1) 16)) ∧ z1 = .next ((x2 ++ [t14_2]), (IntKind.i64.wrap (x3 + 1)))) else (z1 = .exit x2)
def frames_keyed.b2 (a0 : TState) : ((List ByteArray) × Int) → Rnd (((List ByteArray) × Int)) ((List ByteArray)) TKey → Prop := fun (x5, x6) z2 => if x6 < (a0.Stack.length : Int) then (((InR x6 a0.Stack.length)) ∧ ∃ t27_2 : ByteArray, (strconv_Itoa.f (rdl a0.Stack x6) t27_2) ∧ ((Fits (x5.length + 1) 16)) ∧ z2 = .next ((x5 ++ [t27_2]), (IntKind.i64.wrap (x6 + 1)))) else (z2 = .exit x5)
def frames_keyed.f (a0 : TState) (r : TKey) : Prop :=
  ∃ o1 : Fin ((List ByteArray)) TKey, Loop (frames_keyed.b1 a0) ([], 0) o1 ∧ o1.on (fun x4 => ∃ o2 : Fin ((List ByteArray)) TKey, Loop (frames_keyed.b2 a0) (x4, 0) o2 ∧ o2.on (fun x7 => ∃ t29_5 : ByteArray, (strings_Join.f x7 (⟨#[32]⟩ : ByteArray) t29_5) ∧ r = (TKey.mk a0.Node a0.Marks t29_5)) (fun r_ => r = r_)) (fun r_ => r = r_)
theorem frames_keyed.D {a0 r} (h : frames_keyed.f a0 r) : D Tryz.prog X (.callH 35 [.agg (TState.lit a0)] [] (.agg (TKey.lit r)) []) := by
  unfold frames_keyed.f at h
  refine .enter 41 0 fn35 q q q<|.seq<|.room 0<|.room 0<|.reg0 q (.o (bxP (s := 4) (cs := (TState.lit a0)) q ⟨q, by decide, q⟩ q)<|.op 1 q (alP (s := 3) ze75 ⟨q, by decide, q⟩ q)<|.nil0)<|.seq<|.reg0 q (.o (asV q)<|.nil0)<|.seq<|.seq<|.reg0 q (.o (faP fa33_1 q)<|.o (ldP q sz30 ag30 q)<|.o (lnR (l := a0.Env) sl30 q)<|.o (mvV q)<|.nil0) ?_
  refine .block<|.room 1<|.keepL [0, 1, 2] [(1, .ptr 0 1 4 0 0), (2, .ptr 1 1 3 0 0), (3, .own 2 0), (9, .rows (a0.Env.map (cInt .i64))), (10, i6 (a0.Env.length : Int)), (11, i6 0)] [⟨4, [(TState.lit a0)], 0, none⟩, ⟨3, [[i6 0, u6 0, .val (.string ⟨#[]⟩)]], 0, none⟩, ⟨1, [].map cStr, 0, none⟩] (by decide) (by decide) ⟨.ptr q, .ptr q, .nilOwn, .free q q, .free q q, .free q q, trivial⟩ ⟨⟨_, q, bcBox (all2_free q)⟩, ⟨_, q, bcBox (all2_free q)⟩, ⟨_, q, (bcRow (l := []) sl22 (Nat.le_refl _) q)⟩, trivial⟩ ?_
  obtain ⟨o1, hL1, h⟩ := h
  refine .loopB (frames_keyed.b1 a0) (fun (x2, x3) => listEnv [(1, .ptr 0 1 4 0 0), (2, .ptr 1 1 3 0 0), (3, .own 2 x2.length), (9, .rows (a0.Env.map (cInt .i64))), (10, i6 (a0.Env.length : Int)), (11, i6 x3)]) (fun (x2, x3) => [⟨4, [(TState.lit a0)], 0, none⟩, ⟨3, [[i6 0, u6 0, .val (.string ⟨#[]⟩)]], 0, none⟩, ⟨1, x2.map cStr, 0, none⟩]) (fun x4 => listEnv [(1, .ptr 0 1 4 0 0), (2, .ptr 1 1 3 0 0), (3, .own 2 x4.length)]) (fun x4 => [⟨4, [(TState.lit a0)], 0, none⟩, ⟨3, [[i6 0, u6 0, .val (.string ⟨#[]⟩)]], 0, none⟩, ⟨1, x4.map cStr, 0, none⟩]) hL1 (fun r_ => r = r_) ?_ ?_ ?_
  · rintro x4 rfl
    try dsimp only [Fin.on] at h
    refine .seq<|.seq<|.reg0 q (.o (faP fa33_3 q)<|.o (ldP q sz23 ag23 q)<|.o (lnR (l := a0.Stack) sl23 q)<|.o (mvV q)<|.nil0)<|.block<|.keepL [0, 1, 2] [(1, .ptr 0 1 4 0 0), (2, .ptr 1 1 3 0 0), (3, .own 2 x4.length), (22, .rows (a0.Stack.map (cInt .i64))), (23, i6 (a0.Stack.length : Int)), (24, i6 0)] [⟨4, [(TState.lit a0)], 0, none⟩, ⟨3, [[i6 0, u6 0, .val (.string ⟨#[]⟩)]], 0, none⟩, ⟨1, x4.map cStr, 0, none⟩] (by decide) (by decide) ⟨.ptr q, .ptr q, .own q, .free q q, .free q q, .free q q, trivial⟩ ⟨⟨_, q, bcBox (all2_free q)⟩, ⟨_, q, bcBox (all2_free q)⟩, ⟨_, q, bcRow (l := x4) sl22 (Nat.le_refl _) q⟩, trivial⟩ ?_
    obtain ⟨o2, hL2, h⟩ := h
    refine .loopB (frames_keyed.b2 a0) (fun (x5, x6) => listEnv [(1, .ptr 0 1 4 0 0), (2, .ptr 1 1 3 0 0), (3, .own 2 x5.length), (22, .rows (a0.Stack.map (cInt .i64))), (23, i6 (a0.Stack.length : Int)), (24, i6 x6)]) (fun (x5, x6) => [⟨4, [(TState.lit a0)], 0, none⟩, ⟨3, [[i6 0, u6 0, .val (.string ⟨#[]⟩)]], 0, none⟩, ⟨1, x5.map cStr, 0, none⟩]) (fun x7 => listEnv [(1, .ptr 0 1 4 0 0), (2, .ptr 1 1 3 0 0), (3, .own 2 x7.length)]) (fun x7 => [⟨4, [(TState.lit a0)], 0, none⟩, ⟨3, [[i6 0, u6 0, .val (.string ⟨#[]⟩)]], 0, none⟩, ⟨1, x7.map cStr, 0, none⟩]) hL2 (fun r_ => r = r_) ?_ ?_ ?_
    · rintro x7 rfl
      try dsimp only [Fin.on] at h
      refine .seq ?_
      obtain ⟨t29_5, g29_5, h⟩ := h
      refine .reg1 (e1 := listEnv [(2, .ptr 1 1 3 0 0)]) (H1 := [⟨4, [(TState.lit a0)], 0, none⟩, ⟨3, [[i6 a0.Node, u6 a0.Marks, .val (.string t29_5)]], 0, none⟩, ⟨1, x7.map cStr, 0, none⟩]) q ?_ ?_
      · exact .drawM [(6, 40, .agg [i6 a0.Node, u6 a0.Marks, .val (.string t29_5)]), (5, 39, .val (.string t29_5)), (4, 38, .own 2 x7.length), (3, 37, u6 a0.Marks), (2, 36, .ptr 0 1 4 0 2), (1, 35, i6 a0.Node), (0, 34, .ptr 0 1 4 0 0)] [(7, 1, ⟨3, [[i6 a0.Node, u6 a0.Marks, .val (.string t29_5)]], 0, none⟩)] [[], [0], [], [2], [], [4], [1, 0, 3, 2, 5, 4], [6, 1, 0, 3, 2, 5, 4]] (by rfl) (by rfl) (by rfl) (by exact ⟨oP (fun _ => faP fa33_0 q) q, oP (fun _ => ldP q sz3 ag3 q) q, oP (fun _ => faP fa33_2 q) q, oP (fun _ => ldP q sz31 ag31 q) q, oP (fun _ => mvO q) q, fun S hS hD hn => .oneI hS hD hn q q (callee_of q go53 q) (.lendC (args' := [.rows (x7.map cStr), .val (.string (⟨#[32]⟩ : ByteArray))])  [2] false (.cons (cFixO (l := x7) sl22 q q q q)<|.cons (.free q q)<|.nil) (by decide) q q q q (strings_Join.D g29_5)) q q q, oP (fun _ => bldS (cs := [i6 a0.Node, u6 a0.Marks, .val (.string t29_5)]) ze75 pl75 q q) q, fun S hS hD hn => .one0 0 q q (stB (cs0 := [i6 0, u6 0, .val (.string ⟨#[]⟩)]) (cs := [i6 a0.Node, u6 a0.Marks, .val (.string t29_5)]) (cs1 := [i6 a0.Node, u6 a0.Marks, .val (.string t29_5)]) q q sz75 q ⟨Nat.le_of_ble_eq_true q, q⟩ q) (drawE_other _ _ _ _ q) q, trivial⟩) _ (by exact ⟨.ptr q, trivial⟩) (by rfl)
      replace h := h.symm
      subst h
      refine .k [(2, .cptr [i6 a0.Node, u6 a0.Marks, .val (.string t29_5)] 0)] ⟨cFixP q q (.cons (.free q q)<|.cons (.free q q)<|.cons (.free q q)<|.nil), trivial⟩ ?_
      exact .ret q
    · rintro r_ rfl
      exact h
    · rintro ⟨x5, x6⟩ z2 h hn2 hx2 hr2
      dsimp only [frames_keyed.b2] at h
      refine .seq<|.reg0 q (.o (ltI q q)<|.nil0)<|.seq ?_
      by_cases c6 : x6 < (a0.Stack.length : Int)
      · rw [if_pos c6] at h
        refine .condT q (dt c6)<|.skip<|.seq<|.block<|.seq ?_
        obtain ⟨g26_0, h⟩ := h
        refine .reg0 q (.o (ixR (l := a0.Stack) (lit := (cInt .i64)) sl23 q q (fun _ => q) g26_0.1 g26_0.2)<|.o (ldC q sz3 ag3 q)<|.a q<|.nil0) ?_
        obtain ⟨t27_2, g27_2, h⟩ := h
        obtain ⟨g27_4, h⟩ := h
        refine .room 0<|.room 0<|.reg0 q (.o (mvO q)<|.o (mvV q)<|.callI q (callee_of q go52 q) (.pure q q (strconv_Itoa.D g27_2))<|.op 3 q (bldL (s := 1) (cs := [.val (.string t27_2)]) un22 sz9 ze9 ⟨by decide, q, by decide⟩ q q q q)<|.o (ap1 (l := x5) t27_2 sl22 q q q (Nat.zero_le _) (elems_own (l := [t27_2]) q q) g27_4)<|.o (asO q)<|.nil0) ?_
        refine .inBlock<|.reg0 q (.o (addI q q)<|.o (mvV q)<|.nil0)<|.keepL [0, 1, 2] [(1, .ptr 0 1 4 0 0), (2, .ptr 1 1 3 0 0), (3, .own 2 ((x5 ++ [t27_2]).length)), (22, .rows (a0.Stack.map (cInt .i64))), (23, i6 (a0.Stack.length : Int)), (24, i6 (IntKind.i64.wrap (x6 + 1)))] [⟨4, [(TState.lit a0)], 0, none⟩, ⟨3, [[i6 0, u6 0, .val (.string ⟨#[]⟩)]], 0, none⟩, ⟨1, (x5 ++ [t27_2]).map cStr, 0, none⟩] (by decide) (by decide) ⟨.ptr q, .ptr q, .own q, .free q q, .free q q, .free q q, trivial⟩ ⟨⟨_, q, bcBox (all2_free q)⟩, ⟨_, q, bcBox (all2_free q)⟩, ⟨_, q, bcRow (l := (x5 ++ [t27_2])) sl22 (Nat.le_refl _) q⟩, trivial⟩ ?_
        exact hn2 _ h
      · rw [if_neg c6] at h
        refine .condF q (df c6)<|.exit q<|.keepL [0, 1, 2] [(1, .ptr 0 1 4 0 0), (2, .ptr 1 1 3 0 0), (3, .own 2 x5.length)] [⟨4, [(TState.lit a0)], 0, none⟩, ⟨3, [[i6 0, u6 0, .val (.string ⟨#[]⟩)]], 0, none⟩, ⟨1, x5.map cStr, 0, none⟩] (by decide) (by decide) ⟨.ptr q, .ptr q, .own q, trivial⟩ ⟨⟨_, q, bcBox (all2_free q)⟩, ⟨_, q, bcBox (all2_free q)⟩, ⟨_, q, bcRow (l := x5) sl22 (Nat.le_refl _) q⟩, trivial⟩ ?_
        exact hx2 _ h
  · rintro r_ rfl
    exact h
  · rintro ⟨x2, x3⟩ z1 h hn1 hx1 hr1
    dsimp only [frames_keyed.b1] at h
    refine .seq<|.reg0 q (.o (ltI q q)<|.nil0)<|.seq ?_
    by_cases c3 : x3 < (a0.Env.length : Int)
    · rw [if_pos c3] at h
      refine .condT q (dt c3)<|.skip<|.seq<|.block<|.seq ?_
      obtain ⟨g13_0, h⟩ := h
      refine .reg0 q (.o (ixR (l := a0.Env) (lit := (cInt .i64)) sl30 q q (fun _ => q) g13_0.1 g13_0.2)<|.o (ldC q sz2 ag2 q)<|.a q<|.nil0) ?_
      obtain ⟨t14_2, g14_2, h⟩ := h
      obtain ⟨g14_4, h⟩ := h
      refine .room 0<|.room 0<|.reg0 q (.o (mvO q)<|.o (mvV q)<|.callI q (callee_of q go51 q) (.pure q q (strconv_FormatInt.D g14_2))<|.op 3 q (bldL (s := 1) (cs := [.val (.string t14_2)]) un22 sz9 ze9 ⟨by decide, q, by decide⟩ q q q q)<|.o (ap1 (l := x2) t14_2 sl22 q q q (Nat.zero_le _) (elems_own (l := [t14_2]) q q) g14_4)<|.o (asO q)<|.nil0) ?_
      refine .inBlock<|.reg0 q (.o (addI q q)<|.o (mvV q)<|.nil0)<|.keepL [0, 1, 2] [(1, .ptr 0 1 4 0 0), (2, .ptr 1 1 3 0 0), (3, .own 2 ((x2 ++ [t14_2]).length)), (9, .rows (a0.Env.map (cInt .i64))), (10, i6 (a0.Env.length : Int)), (11, i6 (IntKind.i64.wrap (x3 + 1)))] [⟨4, [(TState.lit a0)], 0, none⟩, ⟨3, [[i6 0, u6 0, .val (.string ⟨#[]⟩)]], 0, none⟩, ⟨1, (x2 ++ [t14_2]).map cStr, 0, none⟩] (by decide) (by decide) ⟨.ptr q, .ptr q, .own q, .free q q, .free q q, .free q q, trivial⟩ ⟨⟨_, q, bcBox (all2_free q)⟩, ⟨_, q, bcBox (all2_free q)⟩, ⟨_, q, bcRow (l := (x2 ++ [t14_2])) sl22 (Nat.le_refl _) q⟩, trivial⟩ ?_
      exact hn1 _ h
    · rw [if_neg c3] at h
      refine .condF q (df c3)<|.exit q<|.keepL [0, 1, 2] [(1, .ptr 0 1 4 0 0), (2, .ptr 1 1 3 0 0), (3, .own 2 x2.length)] [⟨4, [(TState.lit a0)], 0, none⟩, ⟨3, [[i6 0, u6 0, .val (.string ⟨#[]⟩)]], 0, none⟩, ⟨1, x2.map cStr, 0, none⟩] (by decide) (by decide) ⟨.ptr q, .ptr q, .own q, trivial⟩ ⟨⟨_, q, bcBox (all2_free q)⟩, ⟨_, q, bcBox (all2_free q)⟩, ⟨_, q, bcRow (l := x2) sl22 (Nat.le_refl _) q⟩, trivial⟩ ?_
      exact hx1 _ h
def graph_From.j1 (x5 : Int) : (List Int) → (Rnd (((List Int) × Int)) ((List Int)) ((List Int) × Int)) → Prop := fun x10 z1 => z1 = .next (x10, (IntKind.i64.wrap (x5 + 1)))
def graph_From.b1 (a0 : TGraph) (a1 : Int) : ((List Int) × Int) → Rnd (((List Int) × Int)) ((List Int)) ((List Int) × Int) → Prop := fun (x4, x5) z1 => if x5 < (a0.Steps.length : Int) then (((InR x5 a0.Steps.length)) ∧ if (rdl a0.Steps x5).From = a1 then (((Fits (x4.length + 1) 8)) ∧ graph_From.j1 x5 (x4 ++ [x5]) z1) else (graph_From.j1 x5 x4 z1)) else (z1 = .exit x4)
def graph_From.f (a0 : TGraph) (a1 : Int) (r : (List Int) × Int) : Prop :=
  ∃ t2_1 : Int, (graph_Check.f a0 t2_1) ∧ if t2_1 = 0 then (∃ t4_4 : Bool, (graph_in.f a1 (a0.Of.length : Int) t4_4) ∧ if t4_4 = true then (∃ o1 : Fin ((List Int)) ((List Int) × Int), Loop (graph_From.b1 a0 a1) ([], 0) o1 ∧ o1.on (fun x8 => r = (x8, 0)) (fun r_ => r = r_)) else (r = ([], 5))) else (r = ([], t2_1))
theorem graph_From.D {a0 a1 r} (h : graph_From.f a0 a1 r) : D Tryz.prog X (.callH 27 [.agg (TGraph.lit a0), .val (.int .i64 a1)] [] (.tuple [.rows (r.1.map (cInt .i64)), .val (.int .i64 r.2)]) []) := by
  unfold graph_From.f at h
  refine .enter 39 0 fn27 q q q<|.seq<|.room 0<|.reg0 q (.o (bxP (s := 10) (cs := (TGraph.lit a0)) q ⟨q, by decide, q⟩ q)<|.o (asV q)<|.o (asV q)<|.nil0)<|.seq<|.seq ?_
  obtain ⟨t2_1, g2_1, h⟩ := h
  refine .reg0 q (.o (ldG q sz29 ag29 q)<|.c q go25 q q q (graph_Check.D g2_1)<|.a q<|.nil0)<|.seq<|.reg0 q (.o (mvV q)<|.o (neI q q)<|.nil0) ?_
  by_cases c1 : t2_1 = 0
  · rw [if_pos c1] at h
    refine .condF q (nf c1)<|.skip<|.seq<|.seq ?_
    obtain ⟨t4_4, g4_4, h⟩ := h
    refine .reg0 q (.m q<|.o (faP fa29_5 q)<|.o (ldP q sz23 ag23 q)<|.o (lnR (l := a0.Of) sl23 q)<|.c q go45 q q q (graph_in.D g4_4)<|.o (notB q)<|.nil0) ?_
    by_cases c2 : t4_4 = true
    · rw [if_pos c2] at h
      refine .condF q (bnotF c2)<|.skip<|.seq<|.reg0 q (.o (asV q)<|.nil0)<|.seq<|.seq<|.reg0 q (.o (faP fa29_6 q)<|.o (ldP q sz24 ag24 q)<|.o (lnR (l := a0.Steps) sl24 q)<|.o (mvV q)<|.nil0)<|.block<|.room 1<|.keepL [1] [(1, i6 a1), (7, .own 0 0), (22, .rows (a0.Steps.map TStep.cells)), (23, i6 (a0.Steps.length : Int)), (24, i6 0)] [⟨1, [].map (cInt .i64), 0, none⟩] (by decide) (by decide) ⟨.free q q, .nilOwn, .free q q, .free q q, .free q q, trivial⟩ ⟨⟨_, q, (bcRow (l := []) sl23 (Nat.le_refl _) q)⟩, trivial⟩ ?_
      obtain ⟨o1, hL1, h⟩ := h
      refine .loopB (graph_From.b1 a0 a1) (fun (x4, x5) => listEnv [(1, i6 a1), (7, .own 0 x4.length), (22, .rows (a0.Steps.map TStep.cells)), (23, i6 (a0.Steps.length : Int)), (24, i6 x5)]) (fun (x4, x5) => [⟨1, x4.map (cInt .i64), 0, none⟩]) (fun x8 => listEnv [(7, .own 0 x8.length)]) (fun x8 => [⟨1, x8.map (cInt .i64), 0, none⟩]) hL1 (fun r_ => r = r_) ?_ ?_ ?_
      · rintro x8 rfl
        try dsimp only [Fin.on] at h
        refine .seq<|.reg0 q (.o (mvO q)<|.o (asO q)<|.o (asV q)<|.nil0) ?_
        replace h := h.symm
        subst h
        refine .k [(4, .rows (x8.map (cInt .i64))), (5, i6 0)] ⟨cFixO (l := x8) sl23 q q q q, .free q q, trivial⟩ ?_
        exact .ret q
      · rintro r_ rfl
        exact h
      · rintro ⟨x4, x5⟩ z1 h hn1 hx1 hr1
        dsimp only [graph_From.b1] at h
        refine .seq<|.reg0 q (.o (ltI q q)<|.nil0)<|.seq ?_
        by_cases c13 : x5 < (a0.Steps.length : Int)
        · rw [if_pos c13] at h
          refine .condT q (dt c13)<|.skip<|.seq<|.block<|.seq ?_
          obtain ⟨g32_1, h⟩ := h
          refine .room 0<|.reg0 q (.o (mvV q)<|.o (ixR (l := a0.Steps) (lit := TStep.lit) sl24 q q (fun _ => q) g32_1.1 g32_1.2)<|.o (ldCG q sz65 ag65 q)<|.op 1 q (alP (s := 7) ze65 ⟨q, by decide, q⟩ q)<|.o (asV q)<|.o (stB (cs0 := GD_c0) (cs := (TStep.lit (rdl a0.Steps x5))) (cs1 := (TStep.lit (rdl a0.Steps x5))) q q sz65 q ⟨Nat.le_of_ble_eq_true q, q⟩ q)<|.nil0) ?_
          refine .seq<|.reg0 q (.o (faP fa65_0 q)<|.o (ldP q sz3 ag3 q)<|.o (mvV q)<|.o (eqI q q)<|.nil0) ?_
          refine .consJ (fun s_ => graph_From.j1 x5 s_ z1) (fun x10 => listEnv [(1, i6 a1), (7, .own 0 x10.length), (22, .rows (a0.Steps.map TStep.cells)), (23, i6 (a0.Steps.length : Int)), (24, i6 x5)]) (fun x10 => [⟨1, x10.map (cInt .i64), 0, none⟩]) ?_ fun hJ1 => ?_
          · rintro x10 h
            unfold graph_From.j1 at h
            try dsimp only at h
            refine .inBlock<|.reg0 q (.o (addI q q)<|.o (mvV q)<|.nil0)<|.keepL [0] [(1, i6 a1), (7, .own 0 x10.length), (22, .rows (a0.Steps.map TStep.cells)), (23, i6 (a0.Steps.length : Int)), (24, i6 (IntKind.i64.wrap (x5 + 1)))] [⟨1, x10.map (cInt .i64), 0, none⟩] (by decide) (by decide) ⟨.free q q, .own q, .free q q, .free q q, .free q q, trivial⟩ ⟨⟨_, q, bcRow (l := x10) sl23 (Nat.le_refl _) q⟩, trivial⟩ ?_
            exact hn1 _ h
          · by_cases c17 : (rdl a0.Steps x5).From = a1
            · rw [if_pos c17] at h
              refine .condT q (bt c17) ?_
              obtain ⟨g36_3, h⟩ := h
              refine .room 0<|.room 0<|.reg0 q (.o (mvO q)<|.o (mvV q)<|.op 2 q (bldL (s := 1) (cs := [i6 x5]) un23 sz3 ze3 ⟨by decide, q, by decide⟩ q q q q)<|.o (ap1 (l := x4) x5 sl23 q q q (Nat.zero_le _) (elems_own (l := [x5]) q q) g36_3)<|.o (asO q)<|.nil0)<|.keepL [0] [(1, i6 a1), (7, .own 0 ((x4 ++ [x5]).length)), (22, .rows (a0.Steps.map TStep.cells)), (23, i6 (a0.Steps.length : Int)), (24, i6 x5)] [⟨1, (x4 ++ [x5]).map (cInt .i64), 0, none⟩] (by decide) (by decide) ⟨.free q q, .own q, .free q q, .free q q, .free q q, trivial⟩ ⟨⟨_, q, bcRow (l := (x4 ++ [x5])) sl23 (Nat.le_refl _) q⟩, trivial⟩ ?_
              exact hJ1 _ h
            · rw [if_neg c17] at h
              refine .condF q (bn c17)<|.skip<|.keepL [0] [(1, i6 a1), (7, .own 0 x4.length), (22, .rows (a0.Steps.map TStep.cells)), (23, i6 (a0.Steps.length : Int)), (24, i6 x5)] [⟨1, x4.map (cInt .i64), 0, none⟩] (by decide) (by decide) ⟨.free q q, .own q, .free q q, .free q q, .free q q, trivial⟩ ⟨⟨_, q, bcRow (l := x4) sl23 (Nat.le_refl _) q⟩, trivial⟩ ?_
              exact hJ1 _ h
        · rw [if_neg c13] at h
          refine .condF q (df c13)<|.exit q<|.keepL [0] [(7, .own 0 x4.length)] [⟨1, x4.map (cInt .i64), 0, none⟩] (by decide) (by decide) ⟨.own q, trivial⟩ ⟨⟨_, q, bcRow (l := x4) sl23 (Nat.le_refl _) q⟩, trivial⟩ ?_
          exact hx1 _ h
    · rw [if_neg c2] at h
      refine .condT q (bnotT (nb c2))<|.seq<|.reg0 q (.o (asV q)<|.o (asV q)<|.nil0) ?_
      replace h := h.symm
      subst h
      refine .k [(4, .rows (([] : List Int).map (cInt .i64))), (5, i6 5)] ⟨.nil, .free q q, trivial⟩ ?_
      exact .ret q
  · rw [if_neg c1] at h
    refine .condT q (nt c1)<|.seq<|.reg0 q (.o (mvV q)<|.o (asV q)<|.o (asV q)<|.nil0) ?_
    replace h := h.symm
    subst h
    refine .k [(4, .rows (([] : List Int).map (cInt .i64))), (5, i6 t2_1)] ⟨.nil, .free q q, trivial⟩ ?_
    exact .ret q
def frames_over.f (a0 : TGraph) (a1 : TState) (r : Bool) : Prop :=
  ((InR a1.Node a0.Of.length)) ∧ ((InR (rdl a0.Of a1.Node) a0.Exit.length)) ∧ r = ((a1.Node == (rdl a0.Exit (rdl a0.Of a1.Node))) && (decide ((a1.Stack.length : Int) > 0)))
abbrev GD_A0 : List (List Nat) := [[], [0], [], [2], [], [4], [], [6], [5, 4, 7, 6], [8, 5, 4, 7, 6], [3, 2, 9, 8, 5, 4, 7, 6], [10, 3, 2, 9, 8, 5, 4, 7, 6], [1, 0, 11, 10, 3, 2, 9, 8, 5, 4, 7, 6], [12, 1, 0, 11, 10, 3, 2, 9, 8, 5, 4, 7, 6], [13, 12, 1, 0, 11, 10, 3, 2, 9, 8, 5, 4, 7, 6], [14, 13, 12, 1, 0, 11, 10, 3, 2, 9, 8, 5, 4, 7, 6], [15, 14, 13, 12, 1, 0, 11, 10, 3, 2, 9, 8, 5, 4, 7, 6], [16, 15, 14, 13, 12, 1, 0, 11, 10, 3, 2, 9, 8, 5, 4, 7, 6], [13, 12, 1, 0, 11, 10, 3, 2, 9, 8, 5, 4, 7, 6, 17, 16, 15, 14], [18, 13, 12, 1, 0, 11, 10, 3, 2, 9, 8, 5, 4, 7, 6, 17, 16, 15, 14]]
theorem frames_over.D {a0 a1 r} (h : frames_over.f a0 a1 r) : D Tryz.prog X (.callH 28 [.agg (TGraph.lit a0), .agg (TState.lit a1)] [] (.val (.bool r)) []) := by
  unfold frames_over.f at h
  refine .enter 24 0 fn28 q q q<|.seq<|.room 0<|.room 0<|.reg0 q (.o (bxP (s := 10) (cs := (TGraph.lit a0)) q ⟨q, by decide, q⟩ q)<|.op 1 q (bxP (s := 4) (cs := (TState.lit a1)) q ⟨q, by decide, q⟩ q)<|.o (asV q)<|.nil0)<|.seq ?_
  obtain ⟨g2_8, h⟩ := h
  obtain ⟨g2_10, h⟩ := h
  refine .reg1 (e1 := listEnv [(4, bo ((a1.Node == (rdl a0.Exit (rdl a0.Of a1.Node))) && (decide ((a1.Stack.length : Int) > 0))))]) (H1 := [⟨10, [(TGraph.lit a0)], 0, none⟩, ⟨4, [(TState.lit a1)], 0, none⟩]) q ?_ ?_
  · by_cases c1 : a1.Node = (rdl a0.Exit (rdl a0.Of a1.Node))
    · exact .drawM [(19, 4, bo (decide ((a1.Stack.length : Int) > 0))), (18, 23, bo (decide ((a1.Stack.length : Int) > 0))), (17, 22, bo (decide ((a1.Stack.length : Int) > 0))), (16, 21, i6 (a1.Stack.length : Int)), (15, 20, .rows (a1.Stack.map (cInt .i64))), (14, 19, .ptr 1 1 4 0 3), (13, 18, bo (a1.Node == (rdl a0.Exit (rdl a0.Of a1.Node)))), (12, 17, bo (a1.Node == (rdl a0.Exit (rdl a0.Of a1.Node)))), (11, 16, i6 (rdl a0.Exit (rdl a0.Of a1.Node))), (10, 15, .cptr ((cInt .i64) (rdl a0.Exit (rdl a0.Of a1.Node))) 0), (9, 14, i6 (rdl a0.Of a1.Node)), (8, 13, .cptr ((cInt .i64) (rdl a0.Of a1.Node)) 0), (7, 12, i6 a1.Node), (6, 11, .ptr 1 1 4 0 0), (5, 10, .rows (a0.Of.map (cInt .i64))), (4, 9, .ptr 0 1 10 0 5), (3, 8, .rows (a0.Exit.map (cInt .i64))), (2, 7, .ptr 0 1 10 0 3), (1, 6, i6 a1.Node), (0, 5, .ptr 1 1 4 0 0)] [] GD_A0 (by rfl) (by rfl) (by rfl) (by exact ⟨oP (fun _ => faP fa33_0 q) q, oP (fun _ => ldP q sz3 ag3 q) q, oP (fun _ => faP fa29_3 q) q, oP (fun _ => ldP q sz23 ag23 q) q, oP (fun _ => faP fa29_5 q) q, oP (fun _ => ldP q sz23 ag23 q) q, oP (fun _ => faP fa33_0 q) q, oP (fun _ => ldP q sz3 ag3 q) q, oP (fun _ => ixR (l := a0.Of) (lit := (cInt .i64)) sl23 q q (fun _ => q) g2_8.1 g2_8.2) q, oP (fun _ => ldC q sz3 ag3 q) q, oP (fun _ => ixR (l := a0.Exit) (lit := (cInt .i64)) sl23 q q (fun _ => q) g2_10.1 g2_10.2) q, oP (fun _ => ldC q sz3 ag3 q) q, oP (fun _ => eqI q q) q, oP (fun _ => mvV q) q, oG q (fun _ => q) (bt c1) (fun _ => faP fa33_3 q) q, oG q (fun _ => q) (bt c1) (fun _ => ldP q sz23 ag23 q) q, oG q (fun _ => q) (bt c1) (fun _ => lnR (l := a1.Stack) sl23 q) q, oG q (fun _ => q) (bt c1) (fun _ => gtI q q) q, oP (fun _ => pkTV q (bt c1) q) q, oP (fun _ => asV q) q, trivial⟩) _ (by exact ⟨cB q (mAndT (bt c1) q), trivial⟩) (by rfl)
    · exact .drawM [(19, 4, bo false), (18, 23, bo false), (17, 22, und), (16, 21, und), (15, 20, und), (14, 19, und), (13, 18, bo (a1.Node == (rdl a0.Exit (rdl a0.Of a1.Node)))), (12, 17, bo (a1.Node == (rdl a0.Exit (rdl a0.Of a1.Node)))), (11, 16, i6 (rdl a0.Exit (rdl a0.Of a1.Node))), (10, 15, .cptr ((cInt .i64) (rdl a0.Exit (rdl a0.Of a1.Node))) 0), (9, 14, i6 (rdl a0.Of a1.Node)), (8, 13, .cptr ((cInt .i64) (rdl a0.Of a1.Node)) 0), (7, 12, i6 a1.Node), (6, 11, .ptr 1 1 4 0 0), (5, 10, .rows (a0.Of.map (cInt .i64))), (4, 9, .ptr 0 1 10 0 5), (3, 8, .rows (a0.Exit.map (cInt .i64))), (2, 7, .ptr 0 1 10 0 3), (1, 6, i6 a1.Node), (0, 5, .ptr 1 1 4 0 0)] [] GD_A0 (by rfl) (by rfl) (by rfl) (by exact ⟨oP (fun _ => faP fa33_0 q) q, oP (fun _ => ldP q sz3 ag3 q) q, oP (fun _ => faP fa29_3 q) q, oP (fun _ => ldP q sz23 ag23 q) q, oP (fun _ => faP fa29_5 q) q, oP (fun _ => ldP q sz23 ag23 q) q, oP (fun _ => faP fa33_0 q) q, oP (fun _ => ldP q sz3 ag3 q) q, oP (fun _ => ixR (l := a0.Of) (lit := (cInt .i64)) sl23 q q (fun _ => q) g2_8.1 g2_8.2) q, oP (fun _ => ldC q sz3 ag3 q) q, oP (fun _ => ixR (l := a0.Exit) (lit := (cInt .i64)) sl23 q q (fun _ => q) g2_10.1 g2_10.2) q, oP (fun _ => ldC q sz3 ag3 q) q, oP (fun _ => eqI q q) q, oP (fun _ => mvV q) q, oN q (fun _ => q) (bn c1) q, oN q (fun _ => q) (bn c1) q, oN q (fun _ => q) (bn c1) q, oN q (fun _ => q) (bn c1) q, oP (fun _ => pkFV q (bn c1) q) q, oP (fun _ => asV q) q, trivial⟩) _ (by exact ⟨cB q (mAndF (bn c1)), trivial⟩) (by rfl)
  replace h := h.symm
  subst h
  refine .kf [(4, bo ((a1.Node == (rdl a0.Exit (rdl a0.Of a1.Node))) && (decide ((a1.Stack.length : Int) > 0))))] q q ?_
  exact .ret q
def frames_moves.j1 (x12 : Int) : (List TMove) → (Rnd (((List TMove) × Int)) ((List TMove)) ((List TMove))) → Prop := fun x24 z1 => z1 = .next (x24, (IntKind.i64.wrap (x12 + 1)))
def frames_moves.b2 (a2 : List Int) (t2_3 : (List Int) × Int) (x12 : Int) : ((List TMove) × Int) → Rnd (((List TMove) × Int)) ((List TMove)) ((List TMove)) → Prop := fun (x25, x26) z2 => if x26 < (a2.length : Int) then (((InR x26 a2.length)) ∧ ((Fits (x25.length + 1) 16)) ∧ z2 = .next ((x25 ++ [(TMove.mk (rdl t2_3.1 x12) (rdl a2 x26))]), (IntKind.i64.wrap (x26 + 1)))) else (z2 = .exit x25)
def frames_moves.b1 (a0 : TGraph) (a2 : List Int) (t2_3 : (List Int) × Int) : ((List TMove) × Int) → Rnd (((List TMove) × Int)) ((List TMove)) ((List TMove)) → Prop := fun (x11, x12) z1 => if x12 < (t2_3.1.length : Int) then (((InR x12 t2_3.1.length)) ∧ ((InR (rdl t2_3.1 x12) a0.Steps.length)) ∧ if (rdl a0.Steps (rdl t2_3.1 x12)).Kind = 4 then (∃ o2 : Fin ((List TMove)) ((List TMove)), Loop (frames_moves.b2 a2 t2_3 x12) (x11, 0) o2 ∧ o2.on (fun x27 => frames_moves.j1 x12 x27 z1) (fun r_ => z1 = .ret r_)) else (((Fits (x11.length + 1) 16)) ∧ frames_moves.j1 x12 (x11 ++ [(TMove.mk (rdl t2_3.1 x12) 0)]) z1)) else (z1 = .exit x11)
def frames_moves.f (a0 : TGraph) (a1 : TState) (a2 : List Int) (r : (List TMove)) : Prop :=
  ∃ t2_3 : (List Int) × Int, (graph_From.f a0 a1.Node t2_3) ∧ ∃ o1 : Fin ((List TMove)) ((List TMove)), Loop (frames_moves.b1 a0 a2 t2_3) ([], 0) o1 ∧ o1.on (fun x20 => ∃ t87_2 : Bool, (frames_over.f a0 a1 t87_2) ∧ if t87_2 = true then (((Fits (x20.length + 1) 16)) ∧ r = (x20 ++ [(TMove.mk (-1) 0)])) else (r = x20)) (fun r_ => r = r_)
theorem frames_moves.D {a0 a1 a2 r} (h : frames_moves.f a0 a1 a2 r) : D Tryz.prog X (.callH 36 [.agg (TGraph.lit a0), .agg (TState.lit a1), .rows (a2.map (cInt .i64))] [] (.rows (r.map TMove.cells)) []) := by
  unfold frames_moves.f at h
  refine .enter 61 0 fn36 q q q<|.seq<|.room 0<|.room 0<|.reg0 q (.o (bxP (s := 10) (cs := (TGraph.lit a0)) q ⟨q, by decide, q⟩ q)<|.op 1 q (bxP (s := 4) (cs := (TState.lit a1)) q ⟨q, by decide, q⟩ q)<|.o (asV q)<|.nil0)<|.seq ?_
  obtain ⟨t2_3, g2_3, h⟩ := h
  refine .reg0 q (.o (ldG q sz29 ag29 q)<|.o (faP fa33_0 q)<|.o (ldP q sz3 ag3 q)<|.c q go27 q q q (graph_From.D g2_3)<|.o (mvT q)<|.o (exT q q)<|.o (exT q q)<|.o (asR q)<|.a q<|.nil0)<|.seq<|.reg0 q (.o (asV q)<|.nil0)<|.seq<|.seq<|.reg0 q (.o (mvR q)<|.o (lnR (l := t2_3.1) sl23 q)<|.o (mvV q)<|.nil0) ?_
  refine .block<|.room 2<|.keepL [0, 1, 2] [(2, .rows (a2.map (cInt .i64))), (3, .ptr 0 1 10 0 0), (4, .ptr 1 1 4 0 0), (9, .own 2 0), (21, .rows (t2_3.1.map (cInt .i64))), (22, i6 (t2_3.1.length : Int)), (23, i6 0)] [⟨10, [(TGraph.lit a0)], 0, none⟩, ⟨4, [(TState.lit a1)], 0, none⟩, ⟨2, [].map TMove.cells, 0, none⟩] (by decide) (by decide) ⟨.free q q, .ptr q, .ptr q, .nilOwn, .free q q, .free q q, .free q q, trivial⟩ ⟨⟨_, q, bcBox (all2_free q)⟩, ⟨_, q, bcBox (all2_free q)⟩, ⟨_, q, (bcRow (l := []) sl52 (Nat.le_refl _) q)⟩, trivial⟩ ?_
  obtain ⟨o1, hL1, h⟩ := h
  refine .loopB (frames_moves.b1 a0 a2 t2_3) (fun (x11, x12) => listEnv [(2, .rows (a2.map (cInt .i64))), (3, .ptr 0 1 10 0 0), (4, .ptr 1 1 4 0 0), (9, .own 2 x11.length), (21, .rows (t2_3.1.map (cInt .i64))), (22, i6 (t2_3.1.length : Int)), (23, i6 x12)]) (fun (x11, x12) => [⟨10, [(TGraph.lit a0)], 0, none⟩, ⟨4, [(TState.lit a1)], 0, none⟩, ⟨2, x11.map TMove.cells, 0, none⟩]) (fun x20 => listEnv [(3, .ptr 0 1 10 0 0), (4, .ptr 1 1 4 0 0), (9, .own 2 x20.length)]) (fun x20 => [⟨10, [(TGraph.lit a0)], 0, none⟩, ⟨4, [(TState.lit a1)], 0, none⟩, ⟨2, x20.map TMove.cells, 0, none⟩]) hL1 (fun r_ => r = r_) ?_ ?_ ?_
  · rintro x20 rfl
    try dsimp only [Fin.on] at h
    refine .seq<|.seq ?_
    obtain ⟨t87_2, g87_2, h⟩ := h
    refine .reg0 q (.o (ldG q sz29 ag29 q)<|.o (ldG q sz33 ag33 q)<|.c q go28 q q q (frames_over.D g87_2)<|.nil0) ?_
    by_cases c23 : t87_2 = true
    · rw [if_pos c23] at h
      refine .condT q c23 ?_
      obtain ⟨g88_3, h⟩ := h
      refine .room 0<|.room 0<|.reg0 q (.o (mvO q)<|.o (bldS (cs := [i6 (-1), i6 0]) ze54 pl54 q q)<|.op 3 q (bldL (s := 2) (cs := [i6 (-1), i6 0]) un52 sz54 ze54 ⟨by decide, q, by decide⟩ q q q q)<|.o (ap1 (l := x20) (TMove.mk (-1) 0) sl52 q q q (Nat.zero_le _) (elems_own (l := [(TMove.mk (-1) 0)]) q q) g88_3)<|.o (asO q)<|.nil0) ?_
      refine .seq<|.reg0 q (.o (mvO q)<|.o (asO q)<|.nil0) ?_
      replace h := h.symm
      subst h
      refine .k [(6, .rows ((x20 ++ [(TMove.mk (-1) 0)]).map TMove.cells))] ⟨cFixO (l := (x20 ++ [(TMove.mk (-1) 0)])) sl52 q q q q, trivial⟩ ?_
      exact .ret q
    · rw [if_neg c23] at h
      refine .condF q (nb c23)<|.skip<|.seq<|.reg0 q (.o (mvO q)<|.o (asO q)<|.nil0) ?_
      replace h := h.symm
      subst h
      refine .k [(6, .rows (x20.map TMove.cells))] ⟨cFixO (l := x20) sl52 q q q q, trivial⟩ ?_
      exact .ret q
  · rintro r_ rfl
    exact h
  · rintro ⟨x11, x12⟩ z1 h hn1 hx1 hr1
    dsimp only [frames_moves.b1] at h
    refine .seq<|.reg0 q (.o (ltI q q)<|.nil0)<|.seq ?_
    by_cases c15 : x12 < (t2_3.1.length : Int)
    · rw [if_pos c15] at h
      refine .condT q (dt c15)<|.skip<|.seq ?_
      refine .consJ (fun s_ => frames_moves.j1 x12 s_ z1) (fun x24 => listEnv [(2, .rows (a2.map (cInt .i64))), (3, .ptr 0 1 10 0 0), (4, .ptr 1 1 4 0 0), (9, .own 2 x24.length), (21, .rows (t2_3.1.map (cInt .i64))), (22, i6 (t2_3.1.length : Int)), (23, i6 x12)]) (fun x24 => [⟨10, [(TGraph.lit a0)], 0, none⟩, ⟨4, [(TState.lit a1)], 0, none⟩, ⟨2, x24.map TMove.cells, 0, none⟩]) ?_ fun hJ1 => ?_
      · rintro x24 h
        unfold frames_moves.j1 at h
        try dsimp only at h
        refine .reg0 q (.o (addI q q)<|.m q<|.nil0)<|.keepL [0, 1, 2] [(2, .rows (a2.map (cInt .i64))), (3, .ptr 0 1 10 0 0), (4, .ptr 1 1 4 0 0), (9, .own 2 x24.length), (21, .rows (t2_3.1.map (cInt .i64))), (22, i6 (t2_3.1.length : Int)), (23, i6 (IntKind.i64.wrap (x12 + 1)))] [⟨10, [(TGraph.lit a0)], 0, none⟩, ⟨4, [(TState.lit a1)], 0, none⟩, ⟨2, x24.map TMove.cells, 0, none⟩] (by decide) (by decide) ⟨.free q q, .ptr q, .ptr q, .own q, .free q q, .free q q, .free q q, trivial⟩ ⟨⟨_, q, bcBox (all2_free q)⟩, ⟨_, q, bcBox (all2_free q)⟩, ⟨_, q, bcRow (l := x24) sl52 (Nat.le_refl _) q⟩, trivial⟩ ?_
        exact hn1 _ h
      · refine .block<|.seq ?_
        obtain ⟨g71_0, h⟩ := h
        refine .reg0 q (.o (ixR (l := t2_3.1) (lit := (cInt .i64)) sl23 q q (fun _ => q) g71_0.1 g71_0.2)<|.o (ldC q sz3 ag3 q)<|.a q<|.nil0)<|.seq<|.seq ?_
        obtain ⟨g72_3, h⟩ := h
        refine .reg0 q (.o (faP fa29_6 q)<|.o (ldP q sz24 ag24 q)<|.m q<|.o (ixR (l := a0.Steps) (lit := TStep.lit) sl24 q q (fun _ => q) g72_3.1 g72_3.2)<|.o (faC fa65_2 q)<|.o (ldC q sz63 ag63 q)<|.o (neI q q)<|.nil0) ?_
        by_cases c19 : (rdl a0.Steps (rdl t2_3.1 x12)).Kind = 4
        · rw [if_pos c19] at h
          refine .condF q (nf c19)<|.skip<|.seq<|.reg0 q (.o (mvR q)<|.o (lnR (l := a2) sl30 q)<|.o (mvV q)<|.nil0)<|.block<|.keepL [0, 1, 2] [(2, .rows (a2.map (cInt .i64))), (3, .ptr 0 1 10 0 0), (4, .ptr 1 1 4 0 0), (9, .own 2 x11.length), (11, i6 (rdl t2_3.1 x12)), (21, .rows (t2_3.1.map (cInt .i64))), (22, i6 (t2_3.1.length : Int)), (23, i6 x12), (39, .rows (a2.map (cInt .i64))), (40, i6 (a2.length : Int)), (41, i6 0)] [⟨10, [(TGraph.lit a0)], 0, none⟩, ⟨4, [(TState.lit a1)], 0, none⟩, ⟨2, x11.map TMove.cells, 0, none⟩] (by decide) (by decide) ⟨.free q q, .ptr q, .ptr q, .own q, .free q q, .free q q, .free q q, .free q q, .free q q, .free q q, .free q q, trivial⟩ ⟨⟨_, q, bcBox (all2_free q)⟩, ⟨_, q, bcBox (all2_free q)⟩, ⟨_, q, bcRow (l := x11) sl52 (Nat.le_refl _) q⟩, trivial⟩ ?_
          obtain ⟨o2, hL2, h⟩ := h
          refine .loopB (frames_moves.b2 a2 t2_3 x12) (fun (x25, x26) => listEnv [(2, .rows (a2.map (cInt .i64))), (3, .ptr 0 1 10 0 0), (4, .ptr 1 1 4 0 0), (9, .own 2 x25.length), (11, i6 (rdl t2_3.1 x12)), (21, .rows (t2_3.1.map (cInt .i64))), (22, i6 (t2_3.1.length : Int)), (23, i6 x12), (39, .rows (a2.map (cInt .i64))), (40, i6 (a2.length : Int)), (41, i6 x26)]) (fun (x25, x26) => [⟨10, [(TGraph.lit a0)], 0, none⟩, ⟨4, [(TState.lit a1)], 0, none⟩, ⟨2, x25.map TMove.cells, 0, none⟩]) (fun x27 => listEnv [(2, .rows (a2.map (cInt .i64))), (3, .ptr 0 1 10 0 0), (4, .ptr 1 1 4 0 0), (9, .own 2 x27.length), (21, .rows (t2_3.1.map (cInt .i64))), (22, i6 (t2_3.1.length : Int)), (23, i6 x12)]) (fun x27 => [⟨10, [(TGraph.lit a0)], 0, none⟩, ⟨4, [(TState.lit a1)], 0, none⟩, ⟨2, x27.map TMove.cells, 0, none⟩]) hL2 (fun r_ => z1 = .ret r_) ?_ ?_ ?_
          · rintro x27 rfl
            try dsimp only [Fin.on] at h
            refine .inBlock<|.keepL [0, 1, 2] [(2, .rows (a2.map (cInt .i64))), (3, .ptr 0 1 10 0 0), (4, .ptr 1 1 4 0 0), (9, .own 2 x27.length), (21, .rows (t2_3.1.map (cInt .i64))), (22, i6 (t2_3.1.length : Int)), (23, i6 x12)] [⟨10, [(TGraph.lit a0)], 0, none⟩, ⟨4, [(TState.lit a1)], 0, none⟩, ⟨2, x27.map TMove.cells, 0, none⟩] (by decide) (by decide) ⟨.free q q, .ptr q, .ptr q, .own q, .free q q, .free q q, .free q q, trivial⟩ ⟨⟨_, q, bcBox (all2_free q)⟩, ⟨_, q, bcBox (all2_free q)⟩, ⟨_, q, bcRow (l := x27) sl52 (Nat.le_refl _) q⟩, trivial⟩ ?_
            exact hJ1 _ h
          · rintro r_ rfl
            exact h
          · rintro ⟨x25, x26⟩ z2 h hn2 hx2 hr2
            dsimp only [frames_moves.b2] at h
            refine .seq<|.reg0 q (.o (ltI q q)<|.nil0)<|.seq ?_
            by_cases c22 : x26 < (a2.length : Int)
            · rw [if_pos c22] at h
              refine .condT q (dt c22)<|.skip<|.seq<|.block<|.seq ?_
              obtain ⟨g83_0, h⟩ := h
              refine .reg0 q (.o (ixR (l := a2) (lit := (cInt .i64)) sl30 q q (fun _ => q) g83_0.1 g83_0.2)<|.o (ldC q sz2 ag2 q)<|.a q<|.nil0) ?_
              obtain ⟨g84_5, h⟩ := h
              refine .room 0<|.room 0<|.reg0 q (.o (mvO q)<|.o (mvV q)<|.o (mvV q)<|.o (bldS (cs := [i6 (rdl t2_3.1 x12), i6 (rdl a2 x26)]) ze54 pl54 q q)<|.op 3 q (bldL (s := 2) (cs := [i6 (rdl t2_3.1 x12), i6 (rdl a2 x26)]) un52 sz54 ze54 ⟨by decide, q, by decide⟩ q q q q)<|.o (ap1 (l := x25) (TMove.mk (rdl t2_3.1 x12) (rdl a2 x26)) sl52 q q q (Nat.zero_le _) (elems_own (l := [(TMove.mk (rdl t2_3.1 x12) (rdl a2 x26))]) q q) g84_5)<|.o (asO q)<|.nil0) ?_
              refine .inBlock<|.reg0 q (.o (addI q q)<|.o (mvV q)<|.nil0)<|.keepL [0, 1, 2] [(2, .rows (a2.map (cInt .i64))), (3, .ptr 0 1 10 0 0), (4, .ptr 1 1 4 0 0), (9, .own 2 ((x25 ++ [(TMove.mk (rdl t2_3.1 x12) (rdl a2 x26))]).length)), (11, i6 (rdl t2_3.1 x12)), (21, .rows (t2_3.1.map (cInt .i64))), (22, i6 (t2_3.1.length : Int)), (23, i6 x12), (39, .rows (a2.map (cInt .i64))), (40, i6 (a2.length : Int)), (41, i6 (IntKind.i64.wrap (x26 + 1)))] [⟨10, [(TGraph.lit a0)], 0, none⟩, ⟨4, [(TState.lit a1)], 0, none⟩, ⟨2, (x25 ++ [(TMove.mk (rdl t2_3.1 x12) (rdl a2 x26))]).map TMove.cells, 0, none⟩] (by decide) (by decide) ⟨.free q q, .ptr q, .ptr q, .own q, .free q q, .free q q, .free q q, .free q q, .free q q, .free q q, .free q q, trivial⟩ ⟨⟨_, q, bcBox (all2_free q)⟩, ⟨_, q, bcBox (all2_free q)⟩, ⟨_, q, bcRow (l := (x25 ++ [(TMove.mk (rdl t2_3.1 x12) (rdl a2 x26))])) sl52 (Nat.le_refl _) q⟩, trivial⟩ ?_
              exact hn2 _ h
            · rw [if_neg c22] at h
              refine .condF q (df c22)<|.exit q<|.keepL [0, 1, 2] [(2, .rows (a2.map (cInt .i64))), (3, .ptr 0 1 10 0 0), (4, .ptr 1 1 4 0 0), (9, .own 2 x25.length), (21, .rows (t2_3.1.map (cInt .i64))), (22, i6 (t2_3.1.length : Int)), (23, i6 x12)] [⟨10, [(TGraph.lit a0)], 0, none⟩, ⟨4, [(TState.lit a1)], 0, none⟩, ⟨2, x25.map TMove.cells, 0, none⟩] (by decide) (by decide) ⟨.free q q, .ptr q, .ptr q, .own q, .free q q, .free q q, .free q q, trivial⟩ ⟨⟨_, q, bcBox (all2_free q)⟩, ⟨_, q, bcBox (all2_free q)⟩, ⟨_, q, bcRow (l := x25) sl52 (Nat.le_refl _) q⟩, trivial⟩ ?_
              exact hx2 _ h
        · rw [if_neg c19] at h
          refine .condT q (nt c19)<|.seq ?_
          obtain ⟨g86_4, h⟩ := h
          refine .room 0<|.room 0<|.reg0 q (.o (mvO q)<|.o (mvV q)<|.o (bldS (cs := [i6 (rdl t2_3.1 x12), i6 0]) ze54 pl54 q q)<|.op 3 q (bldL (s := 2) (cs := [i6 (rdl t2_3.1 x12), i6 0]) un52 sz54 ze54 ⟨by decide, q, by decide⟩ q q q q)<|.o (ap1 (l := x11) (TMove.mk (rdl t2_3.1 x12) 0) sl52 q q q (Nat.zero_le _) (elems_own (l := [(TMove.mk (rdl t2_3.1 x12) 0)]) q q) g86_4)<|.o (asO q)<|.nil0) ?_
          refine .exit q<|.keepL [0, 1, 2] [(2, .rows (a2.map (cInt .i64))), (3, .ptr 0 1 10 0 0), (4, .ptr 1 1 4 0 0), (9, .own 2 ((x11 ++ [(TMove.mk (rdl t2_3.1 x12) 0)]).length)), (21, .rows (t2_3.1.map (cInt .i64))), (22, i6 (t2_3.1.length : Int)), (23, i6 x12)] [⟨10, [(TGraph.lit a0)], 0, none⟩, ⟨4, [(TState.lit a1)], 0, none⟩, ⟨2, (x11 ++ [(TMove.mk (rdl t2_3.1 x12) 0)]).map TMove.cells, 0, none⟩] (by decide) (by decide) ⟨.free q q, .ptr q, .ptr q, .own q, .free q q, .free q q, .free q q, trivial⟩ ⟨⟨_, q, bcBox (all2_free q)⟩, ⟨_, q, bcBox (all2_free q)⟩, ⟨_, q, bcRow (l := (x11 ++ [(TMove.mk (rdl t2_3.1 x12) 0)])) sl52 (Nat.le_refl _) q⟩, trivial⟩ ?_
          exact hJ1 _ h
    · rw [if_neg c15] at h
      refine .condF q (df c15)<|.exit q<|.keepL [0, 1, 2] [(3, .ptr 0 1 10 0 0), (4, .ptr 1 1 4 0 0), (9, .own 2 x11.length)] [⟨10, [(TGraph.lit a0)], 0, none⟩, ⟨4, [(TState.lit a1)], 0, none⟩, ⟨2, x11.map TMove.cells, 0, none⟩] (by decide) (by decide) ⟨.ptr q, .ptr q, .own q, trivial⟩ ⟨⟨_, q, bcBox (all2_free q)⟩, ⟨_, q, bcBox (all2_free q)⟩, ⟨_, q, bcRow (l := x11) sl52 (Nat.le_refl _) q⟩, trivial⟩ ?_
      exact hx1 _ h
def frames_set.f (a0 : Int) (a1 : Int) (a2 : Bool) (r : Int) : Prop :=
  if a2 = true then ((((0 : Int) ≤ a1)) ∧ r = (bitOp .or .u64 a0 (shlI .u64 1 a1))) else ((((0 : Int) ≤ a1)) ∧ r = (bitOp .andNot .u64 a0 (shlI .u64 1 a1)))
theorem frames_set.D {a0 a1 a2 r} (h : frames_set.f a0 a1 a2 r) : D Tryz.prog X (.callH 54 [.val (.int .u64 a0), .val (.int .i64 a1), .val (.bool a2)] [] (.val (.int .u64 r)) []) := by
  unfold frames_set.f at h
  refine .enter 16 0 fn54 q q q<|.seq<|.reg0 q (.o (asV q)<|.nil0)<|.seq<|.seq<|.reg0 q (.o (mvV q)<|.nil0) ?_
  by_cases c1 : a2 = true
  · rw [if_pos c1] at h
    refine .condT q c1<|.seq ?_
    obtain ⟨g3_2, h⟩ := h
    refine .reg0 q (.m q<|.m q<|.o (shl_ q q g3_2)<|.o (orI q q)<|.a q<|.nil0) ?_
    replace h := h.symm
    subst h
    refine .kf [(6, u6 (bitOp .or .u64 a0 (shlI .u64 1 a1)))] q q ?_
    exact .ret q
  · rw [if_neg c1] at h
    refine .condF q (nb c1)<|.skip<|.seq ?_
    obtain ⟨g4_2, h⟩ := h
    refine .reg0 q (.m q<|.m q<|.o (shl_ q q g4_2)<|.o (andNotI q q)<|.a q<|.nil0) ?_
    replace h := h.symm
    subst h
    refine .kf [(6, u6 (bitOp .andNot .u64 a0 (shlI .u64 1 a1)))] q q ?_
    exact .ret q
def slices_Clone_int64_o0.f (a0 : List Int) (r : (List Int)) : Prop :=
  if a0.length = 0 then (∀ (z_ : Option Addr) (k_ : Nat), if z_.isNone = true then (r = []) else (((Fits (0 + 0) 8)) ∧ r = [])) else (((Fits (0 + a0.length) 8)) ∧ r = a0)
theorem slices_Clone_int64_o0.D {a0 r} (h : slices_Clone_int64_o0.f a0 r) : D Tryz.prog X (.callH 33 [.rows (a0.map (cInt .i64))] [] (.own 0 r.length) [⟨1, r.map (cInt .i64), 0, none⟩]) := by
  unfold slices_Clone_int64_o0.f at h
  by_cases c0_ : a0.length = 0
  · rw [if_pos c0_] at h
    have e0_ := List.eq_nil_of_length_eq_zero c0_
    subst e0_
    refine .nilQ [] [] fun z_ k_ => ?_
    replace h := h z_ k_
    refine .enter 8 0 fn33 q q q<|.seq<|.reg0 q (.o (asV q)<|.nil0)<|.seq<|.seq<|.reg0 q (.o (mvV q)<|.o (eqEN un30 q q)<|.nil0) ?_
    by_cases c1 : z_.isNone = true
    · rw [if_pos c1] at h
      refine .condT q c1<|.seq<|.reg0 q (.o (asV q)<|.nil0) ?_
      replace h := h.symm
      subst h
      refine .room 1<|.keepL [0] [(2, .own 0 0)] [⟨1, [].map (cInt .i64), 0, none⟩] (by decide) (by decide) ⟨.nilOwn, trivial⟩ ⟨⟨_, q, bcRow (l := []) sl30 (Nat.le_refl _) q⟩, trivial⟩ ?_
      exact .ret q
    · rw [if_neg c1] at h
      refine .condF q (nb c1)<|.skip<|.seq ?_
      obtain ⟨g4_2, h⟩ := h
      refine .room 0<|.room 0<|.reg0 q (.o (bldL (s := 1) (cs := []) un30 sz2 ze2 ⟨by decide, q, by decide⟩ q q q q)<|.o (mvV q)<|.o (apL (l := []) [] sl30 q q q (Nat.zero_le _) q g4_2)<|.o (asO q)<|.nil0) ?_
      replace h := h.symm
      subst h
      refine .keepL [0] [(2, .own 0 0)] [⟨1, [].map (cInt .i64), 0, none⟩] (by decide) (by decide) ⟨.own q, trivial⟩ ⟨⟨_, q, bcRow (l := []) sl30 (Nat.le_refl _) q⟩, trivial⟩ ?_
      exact .ret q
  · rw [if_neg c0_] at h
    refine .enter 8 0 fn33 q q q<|.seq<|.reg0 q (.o (asV q)<|.nil0)<|.seq<|.seq<|.reg0 q (.o (mvR q)<|.o (eqRN c0_ un30 q q)<|.nil0)<|.condF q q<|.skip<|.seq ?_
    obtain ⟨g7_2, h⟩ := h
    refine .room 0<|.room 0<|.reg0 q (.o (bldL (s := 1) (cs := []) un30 sz2 ze2 ⟨by decide, q, by decide⟩ q q q q)<|.o (mvR q)<|.o (apL (l := []) a0 sl30 q q q (Nat.zero_le _) q g7_2)<|.o (asO q)<|.nil0) ?_
    replace h := h.symm
    subst h
    refine .keepL [0] [(2, .own 0 a0.length)] [⟨1, a0.map (cInt .i64), 0, none⟩] (by decide) (by decide) ⟨.own q, trivial⟩ ⟨⟨_, q, bcRow (l := a0) sl30 (Nat.le_refl _) q⟩, trivial⟩ ?_
    exact .ret q
end Go.RM.Tryz
