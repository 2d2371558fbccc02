/- GC, for the statement FramesReached: what it needs, no more. -/
import Derived.Test.YtcogffeinodfaaaGreatDoorZFramesReachedGB
set_option linter.unusedVariables false
set_option maxRecDepth 8000
set_option maxHeartbeats 4000000
namespace Go.RM.Tryz
open Go.RM Go.Proofs
def l22_awake.f (r : Bool) : Prop := r = true
abbrev GC_c0 : List PV := [i6 0, i6 0, i6 0, i6 0, i6 0, i6 0, i6 0]
theorem l22_awake.D {r} (h : l22_awake.f r) : D Tryz.prog X (.callH 6 [] [] (.val (.bool r)) []) := by
  rw [show r = true from h]
  exact awake_true
def l22_small.f (a0 : TGraph) (a1 : TState) (r : Bool) : Prop :=
  r = ((decide ((a0.Of.length : Int) ≤ 200)) && ((decide ((a0.Steps.length : Int) ≤ 300)) && (decide ((a1.Stack.length : Int) ≤ 200))))
theorem l22_small.D {a0 a1 r} (h : l22_small.f a0 a1 r) : D Tryz.prog X (.callH 7 [.agg (TGraph.lit a0), .agg (TState.lit a1)] [] (.val (.bool r)) []) := by
  unfold l22_small.f at h
  refine .enter 21 0 fn7 q q q<|.seq<|.room 0<|.room 0<|.reg0 q (.o (bxP (s := 10) (cs := (TGraph.lit a0)) q ⟨q, by decide, q⟩ q)<|.op 1 q (bxP (s := 4) (cs := (TState.lit a1)) q ⟨q, by decide, q⟩ q)<|.o (asV q)<|.nil0)<|.seq ?_
  refine .reg0 (e1 := listEnv [(4, bo ((decide ((a0.Of.length : Int) ≤ 200)) && ((decide ((a0.Steps.length : Int) ≤ 300)) && (decide ((a1.Stack.length : Int) ≤ 200)))))]) (H1 := [⟨10, [(TGraph.lit a0)], 0, none⟩, ⟨4, [(TState.lit a1)], 0, none⟩]) q ?_ ?_
  · refine .o (faP fa29_5 q)<|.o (ldP q sz23 ag23 q)<|.o (lnR (l := a0.Of) sl23 q)<|.o (leI q q)<|.m q<|?_
    by_cases c1 : (a0.Of.length : Int) ≤ 200
    · refine .g q (dt c1) (faP fa29_6 q)<|.g q (dt c1) (ldP q sz24 ag24 q)<|.g q (dt c1) (lnR (l := a0.Steps) sl24 q)<|.g q (dt c1) (leI q q)<|.o (pkTV q (dt c1) q)<|.m q<|?_
      by_cases c2 : (a0.Steps.length : Int) ≤ 300
      · exact (.g q (dt c2) (faP fa33_3 q)<|.g q (dt c2) (ldP q sz23 ag23 q)<|.g q (dt c2) (lnR (l := a1.Stack) sl23 q)<|.g q (dt c2) (leI q q)<|.o (pkTV q (dt c2) q)<|.a q<|.nilL _ ⟨cB q (mAndT (dt c1) (mAndT (dt c2) q)), trivial⟩)
      · exact (.n q (df c2)<|.n q (df c2)<|.n q (df c2)<|.n q (df c2)<|.o (pkFV q (df c2) q)<|.a q<|.nilL _ ⟨cB q (mAndT (dt c1) (mAndF (df c2))), trivial⟩)
    · exact (.n q (df c1)<|.n q (df c1)<|.n q (df c1)<|.n q (df c1)<|.o (pkFV q (df c1) q)<|.m q<|.n q q<|.n q q<|.n q q<|.n q q<|.o (pkFV q q q)<|.a q<|.nilL _ ⟨cB q (mAndF (df c1)), trivial⟩)
  replace h := h.symm
  subst h
  refine .kf [(4, bo ((decide ((a0.Of.length : Int) ≤ 200)) && ((decide ((a0.Steps.length : Int) ≤ 300)) && (decide ((a1.Stack.length : Int) ≤ 200)))))] q q ?_
  exact .ret q
def graph_in.f (a0 : Int) (a1 : Int) (r : Bool) : Prop :=
  r = ((decide (a0 ≥ 0)) && (decide (a0 < a1)))
theorem graph_in.D {a0 a1 r} (h : graph_in.f a0 a1 r) : D Tryz.prog X (.callH 45 [.val (.int .i64 a0), .val (.int .i64 a1)] [] (.val (.bool r)) []) := by
  unfold graph_in.f at h
  refine .enter 12 0 fn45 q q q<|.seq<|.reg0 q (.o (asV q)<|.nil0)<|.seq ?_
  refine .reg0 (e1 := listEnv [(4, bo ((decide (a0 ≥ 0)) && (decide (a0 < a1))))]) (H1 := []) q ?_ ?_
  · refine .m q<|.o (geI q q)<|.m q<|?_
    by_cases c1 : a0 ≥ 0
    · exact (.g q (dt c1) (mvV q)<|.g q (dt c1) (mvV q)<|.g q (dt c1) (ltI q q)<|.o (pkTV q (dt c1) q)<|.a q<|.nilL _ ⟨cB q (mAndT (dt c1) q), trivial⟩)
    · exact (.n q (df c1)<|.n q (df c1)<|.n q (df c1)<|.o (pkFV q (df c1) q)<|.a q<|.nilL _ ⟨cB q (mAndF (df c1)), trivial⟩)
  replace h := h.symm
  subst h
  refine .kf [(4, bo ((decide (a0 ≥ 0)) && (decide (a0 < a1))))] q q ?_
  exact .ret q
def slices_IndexFunc_int.b1 (a0 : List Int) (a1 : Int → Bool → Prop) : Int → Rnd Int Unit Int → Prop := fun x1 z1 => if x1 < (a0.length : Int) then (((InR x1 a0.length)) ∧ ∃ t15_5 : Bool, (a1 (rdl a0 x1) t15_5) ∧ if t15_5 = true then (z1 = .ret x1) else (z1 = .next (IntKind.i64.wrap (x1 + 1)))) else (z1 = .exit ())
def slices_IndexFunc_int.f (a0 : List Int) (a1 : Int → Bool → Prop) (r : Int) : Prop :=
  ∃ o1 : Fin Unit Int, Loop (slices_IndexFunc_int.b1 a0 a1) 0 o1 ∧ o1.on (fun _ => r = (-1)) (fun r_ => r = r_)
theorem slices_IndexFunc_int.D {a0 : List Int} {a1 : Int → Bool → Prop} {r : Int} {c1_ : FuncId} {k1_ : List PV} (hg1_ : isGo Tryz.prog c1_ = true) (hk1_ : PV.free deep (.clo c1_ k1_) = true) (hka1_ : k1_.all (PV.free deep) = true) (hq1_ : ∀ x0_ y_, a1 x0_ y_ → D Tryz.prog X (.callH c1_ ([.val (.int .i64 x0_)] ++ k1_) [] (.val (.bool y_)) [])) (h : slices_IndexFunc_int.f a0 a1 r) : D Tryz.prog X (.callH 93 [.rows (a0.map (cInt .i64)), .clo c1_ k1_] [] (.val (.int .i64 r)) []) := by
  unfold slices_IndexFunc_int.f at h
  refine .enter 19 0 fn93 q q q<|.seq<|.reg0 q (.o (asV q)<|.nil0)<|.seq<|.seq<|.reg0 q (.o (mvR q)<|.o (lnR (l := a0) sl23 q)<|.o (mvV q)<|.nil0)<|.block<|.keepL [] [(0, .rows (a0.map (cInt .i64))), (1, .clo c1_ k1_), (7, i6 (a0.length : Int)), (8, i6 0)] [] (by decide) (by decide) ⟨.free q q, .free q hk1_, .free q q, .free q q, trivial⟩ trivial ?_
  obtain ⟨o1, hL1, h⟩ := h
  refine .loopB (slices_IndexFunc_int.b1 a0 a1) (fun x1 => listEnv [(0, .rows (a0.map (cInt .i64))), (1, .clo c1_ k1_), (7, i6 (a0.length : Int)), (8, i6 x1)]) (fun x1 => []) (fun _ => listEnv []) (fun _ => []) hL1 (fun r_ => r = r_) ?_ ?_ ?_
  · rintro ⟨⟩ rfl
    try dsimp only [Fin.on] at h
    refine .seq<|.reg0 q (.o (asV q)<|.nil0) ?_
    replace h := h.symm
    subst h
    refine .kf [(4, i6 (-1))] q q ?_
    exact .ret q
  · rintro r_ rfl
    exact h
  · rintro x1 z1 h hn1 hx1 hr1
    dsimp only [slices_IndexFunc_int.b1] at h
    refine .seq<|.reg0 q (.o (ltI q q)<|.nil0)<|.seq ?_
    by_cases c5 : x1 < (a0.length : Int)
    · rw [if_pos c5] at h
      refine .condT q (dt c5)<|.skip<|.seq<|.block<|.seq<|.reg0 q (.o (mvV q)<|.o (asV q)<|.nil0)<|.seq ?_
      obtain ⟨g15_3, h⟩ := h
      obtain ⟨t15_5, g15_5, h⟩ := h
      refine .reg0 q (.o (mvF q)<|.o (mvR q)<|.m q<|.o (ixR (l := a0) (lit := (cInt .i64)) sl23 q q (fun _ => q) g15_3.1 g15_3.2)<|.o (ldC q sz3 ag3 q)<|.callI q (callee_of q hg1_ q) (.pure (allCons q hka1_) q (hq1_ _ _ g15_5))<|.nil0) ?_
      by_cases c6 : t15_5 = true
      · rw [if_pos c6] at h
        refine .condT q c6<|.seq<|.reg0 q (.o (mvV q)<|.o (asV q)<|.nil0) ?_
        have q3 := hr1 _ h
        replace q3 := q3.symm
        subst q3
        refine .kf [(4, i6 x1)] q q ?_
        exact .ret q
      · rw [if_neg c6] at h
        refine .condF q (nb c6)<|.skip<|.inBlock<|.reg0 q (.o (addI q q)<|.o (mvV q)<|.nil0)<|.k [(0, .rows (a0.map (cInt .i64))), (1, .clo c1_ k1_), (7, i6 (a0.length : Int)), (8, i6 (IntKind.i64.wrap (x1 + 1)))] ⟨.free q q, .free q hk1_, .free q q, .free q q, trivial⟩ ?_
        exact hn1 _ h
    · rw [if_neg c5] at h
      refine .condF q (df c5)<|.exit q<|.keepL [] [] [] (by decide) (by decide) trivial trivial ?_
      exact hx1 _ h
def slices_ContainsFunc_int.f (a0 : List Int) (a1 : Int → Bool → Prop) (r : Bool) : Prop :=
  ∃ t2_2 : Int, (slices_IndexFunc_int.f a0 a1 t2_2) ∧ r = (decide (t2_2 ≥ 0))
theorem slices_ContainsFunc_int.D {a0 : List Int} {a1 : Int → Bool → Prop} {r : Bool} {c1_ : FuncId} {k1_ : List PV} (hg1_ : isGo Tryz.prog c1_ = true) (hk1_ : PV.free deep (.clo c1_ k1_) = true) (hka1_ : k1_.all (PV.free deep) = true) (hq1_ : ∀ x0_ y_, a1 x0_ y_ → D Tryz.prog X (.callH c1_ ([.val (.int .i64 x0_)] ++ k1_) [] (.val (.bool y_)) [])) (h : slices_ContainsFunc_int.f a0 a1 r) : D Tryz.prog X (.callH 67 [.rows (a0.map (cInt .i64)), .clo c1_ k1_] [] (.val (.bool r)) []) := by
  unfold slices_ContainsFunc_int.f at h
  refine .enter 9 0 fn67 q q q<|.seq<|.reg0 q (.o (asV q)<|.nil0)<|.seq ?_
  obtain ⟨t2_2, g2_2, h⟩ := h
  refine .reg0 q (.o (mvR q)<|.o (mvF q)<|.callI q (callee_of q go93 q) (.pure (allCons q (allCons hk1_ q)) q (slices_IndexFunc_int.D hg1_ hk1_ hka1_ hq1_ g2_2))<|.o (geI q q)<|.a q<|.nil0) ?_
  replace h := h.symm
  subst h
  refine .kf [(4, bo (decide (t2_2 ≥ 0)))] q q ?_
  exact .ret q
def graph_procsRight_1.f (a0 : Int) (f0 : Int) (r : Bool) : Prop :=
  ∃ t2_2 : Bool, (graph_in.f a0 f0 t2_2) ∧ r = (!t2_2)
theorem graph_procsRight_1.D {a0 f0 r} (h : graph_procsRight_1.f a0 f0 r) : D Tryz.prog X (.callH 68 [.val (.int .i64 a0), .cptr ((cInt .i64) f0) 0] [] (.val (.bool r)) []) := by
  unfold graph_procsRight_1.f at h
  refine .enter 8 0 fn68 q q q<|.seq<|.reg0 q (.o (asV q)<|.nil0)<|.seq ?_
  obtain ⟨t2_2, g2_2, h⟩ := h
  refine .reg0 q (.m q<|.o (ldC q sz3 ag3 q)<|.c q go45 q q q (graph_in.D g2_2)<|.o (notB q)<|.a q<|.nil0) ?_
  replace h := h.symm
  subst h
  refine .kf [(3, bo (!t2_2))] q q ?_
  exact .ret q
def slices_IndexFunc_Site.b1 (a0 : List TSite) (a1 : TSite → Bool → Prop) : Int → Rnd Int Unit Int → Prop := fun x1 z1 => if x1 < (a0.length : Int) then (((InR x1 a0.length)) ∧ ∃ t15_5 : Bool, (a1 (rdl a0 x1) t15_5) ∧ if t15_5 = true then (z1 = .ret x1) else (z1 = .next (IntKind.i64.wrap (x1 + 1)))) else (z1 = .exit ())
def slices_IndexFunc_Site.f (a0 : List TSite) (a1 : TSite → Bool → Prop) (r : Int) : Prop :=
  ∃ o1 : Fin Unit Int, Loop (slices_IndexFunc_Site.b1 a0 a1) 0 o1 ∧ o1.on (fun _ => r = (-1)) (fun r_ => r = r_)
theorem slices_IndexFunc_Site.D {a0 : List TSite} {a1 : TSite → Bool → Prop} {r : Int} {c1_ : FuncId} {k1_ : List PV} (hg1_ : isGo Tryz.prog c1_ = true) (hk1_ : PV.free deep (.clo c1_ k1_) = true) (hka1_ : k1_.all (PV.free deep) = true) (hq1_ : ∀ x0_ y_, a1 x0_ y_ → D Tryz.prog X (.callH c1_ ([.agg (TSite.lit x0_)] ++ k1_) [] (.val (.bool y_)) [])) (h : slices_IndexFunc_Site.f a0 a1 r) : D Tryz.prog X (.callH 94 [.rows (a0.map TSite.cells), .clo c1_ k1_] [] (.val (.int .i64 r)) []) := by
  unfold slices_IndexFunc_Site.f at h
  refine .enter 19 0 fn94 q q q<|.seq<|.reg0 q (.o (asV q)<|.nil0)<|.seq<|.seq<|.reg0 q (.o (mvR q)<|.o (lnR (l := a0) sl25 q)<|.o (mvV q)<|.nil0)<|.block<|.keepL [] [(0, .rows (a0.map TSite.cells)), (1, .clo c1_ k1_), (7, i6 (a0.length : Int)), (8, i6 0)] [] (by decide) (by decide) ⟨.free q q, .free q hk1_, .free q q, .free q q, trivial⟩ trivial ?_
  obtain ⟨o1, hL1, h⟩ := h
  refine .loopB (slices_IndexFunc_Site.b1 a0 a1) (fun x1 => listEnv [(0, .rows (a0.map TSite.cells)), (1, .clo c1_ k1_), (7, i6 (a0.length : Int)), (8, i6 x1)]) (fun x1 => []) (fun _ => listEnv []) (fun _ => []) hL1 (fun r_ => r = r_) ?_ ?_ ?_
  · rintro ⟨⟩ rfl
    try dsimp only [Fin.on] at h
    refine .seq<|.reg0 q (.o (asV q)<|.nil0) ?_
    replace h := h.symm
    subst h
    refine .kf [(4, i6 (-1))] q q ?_
    exact .ret q
  · rintro r_ rfl
    exact h
  · rintro x1 z1 h hn1 hx1 hr1
    dsimp only [slices_IndexFunc_Site.b1] at h
    refine .seq<|.reg0 q (.o (ltI q q)<|.nil0)<|.seq ?_
    by_cases c5 : x1 < (a0.length : Int)
    · rw [if_pos c5] at h
      refine .condT q (dt c5)<|.skip<|.seq<|.block<|.seq<|.reg0 q (.o (mvV q)<|.o (asV q)<|.nil0)<|.seq ?_
      obtain ⟨g15_3, h⟩ := h
      obtain ⟨t15_5, g15_5, h⟩ := h
      refine .reg0 q (.o (mvF q)<|.o (mvR q)<|.m q<|.o (ixR (l := a0) (lit := TSite.lit) sl25 q q (fun _ => q) g15_3.1 g15_3.2)<|.o (ldCG q sz70 ag70 q)<|.callI q (callee_of q hg1_ q) (.pure (allCons q hka1_) q (hq1_ _ _ g15_5))<|.nil0) ?_
      by_cases c6 : t15_5 = true
      · rw [if_pos c6] at h
        refine .condT q c6<|.seq<|.reg0 q (.o (mvV q)<|.o (asV q)<|.nil0) ?_
        have q3 := hr1 _ h
        replace q3 := q3.symm
        subst q3
        refine .kf [(4, i6 x1)] q q ?_
        exact .ret q
      · rw [if_neg c6] at h
        refine .condF q (nb c6)<|.skip<|.inBlock<|.reg0 q (.o (addI q q)<|.o (mvV q)<|.nil0)<|.k [(0, .rows (a0.map TSite.cells)), (1, .clo c1_ k1_), (7, i6 (a0.length : Int)), (8, i6 (IntKind.i64.wrap (x1 + 1)))] ⟨.free q q, .free q hk1_, .free q q, .free q q, trivial⟩ ?_
        exact hn1 _ h
    · rw [if_neg c5] at h
      refine .condF q (df c5)<|.exit q<|.keepL [] [] [] (by decide) (by decide) trivial trivial ?_
      exact hx1 _ h
def slices_ContainsFunc_Site.f (a0 : List TSite) (a1 : TSite → Bool → Prop) (r : Bool) : Prop :=
  ∃ t2_2 : Int, (slices_IndexFunc_Site.f a0 a1 t2_2) ∧ r = (decide (t2_2 ≥ 0))
theorem slices_ContainsFunc_Site.D {a0 : List TSite} {a1 : TSite → Bool → Prop} {r : Bool} {c1_ : FuncId} {k1_ : List PV} (hg1_ : isGo Tryz.prog c1_ = true) (hk1_ : PV.free deep (.clo c1_ k1_) = true) (hka1_ : k1_.all (PV.free deep) = true) (hq1_ : ∀ x0_ y_, a1 x0_ y_ → D Tryz.prog X (.callH c1_ ([.agg (TSite.lit x0_)] ++ k1_) [] (.val (.bool y_)) [])) (h : slices_ContainsFunc_Site.f a0 a1 r) : D Tryz.prog X (.callH 69 [.rows (a0.map TSite.cells), .clo c1_ k1_] [] (.val (.bool r)) []) := by
  unfold slices_ContainsFunc_Site.f at h
  refine .enter 9 0 fn69 q q q<|.seq<|.reg0 q (.o (asV q)<|.nil0)<|.seq ?_
  obtain ⟨t2_2, g2_2, h⟩ := h
  refine .reg0 q (.o (mvR q)<|.o (mvF q)<|.callI q (callee_of q go94 q) (.pure (allCons q (allCons hk1_ q)) q (slices_IndexFunc_Site.D hg1_ hk1_ hka1_ hq1_ g2_2))<|.o (geI q q)<|.a q<|.nil0) ?_
  replace h := h.symm
  subst h
  refine .kf [(4, bo (decide (t2_2 ≥ 0)))] q q ?_
  exact .ret q
def graph_procsRight_2.f (a0 : TSite) (f0 : Int) (r : Bool) : Prop :=
  ∃ t2_3 : Bool, (graph_in.f a0.Proc f0 t2_3) ∧ r = (!t2_3)
theorem graph_procsRight_2.D {a0 f0 r} (h : graph_procsRight_2.f a0 f0 r) : D Tryz.prog X (.callH 70 [.agg (TSite.lit a0), .cptr ((cInt .i64) f0) 0] [] (.val (.bool r)) []) := by
  unfold graph_procsRight_2.f at h
  refine .enter 9 0 fn70 q q q<|.seq<|.room 0<|.reg0 q (.o (bxP (s := 4) (cs := (TSite.lit a0)) q ⟨q, by decide, q⟩ q)<|.o (asV q)<|.nil0)<|.seq ?_
  obtain ⟨t2_3, g2_3, h⟩ := h
  refine .reg0 q (.o (faP fa70_1 q)<|.o (ldP q sz3 ag3 q)<|.o (ldC q sz3 ag3 q)<|.c q go45 q q q (graph_in.D g2_3)<|.o (notB q)<|.a q<|.nil0) ?_
  replace h := h.symm
  subst h
  refine .kf [(3, bo (!t2_3))] q q ?_
  exact .ret q
def graph_procsRight.b2 (a0 : TGraph) (x2 : Int) : Int → Rnd Int Unit Bool → Prop := fun x4 z2 => if x4 < ([(rdl a0.Entry x2), (rdl a0.Exit x2)].length : Int) then (((InR x4 ([(rdl a0.Entry x2), (rdl a0.Exit x2)].length))) ∧ ∃ t51_4 : Bool, (graph_in.f (rdl [(rdl a0.Entry x2), (rdl a0.Exit x2)] x4) (a0.Of.length : Int) t51_4) ∧ ((t51_4 = true) → (InR (rdl [(rdl a0.Entry x2), (rdl a0.Exit x2)] x4) a0.Of.length)) ∧ if ((!t51_4) || ((rdl a0.Of (rdl [(rdl a0.Entry x2), (rdl a0.Exit x2)] x4)) != x2)) = true then (z2 = .ret false) else (z2 = .next (IntKind.i64.wrap (x4 + 1)))) else (z2 = .exit ())
def graph_procsRight.b1 (a0 : TGraph) : Int → Rnd Int Unit Bool → Prop := fun x2 z1 => if x2 < (a0.Procs.length : Int) then (((InR x2 a0.Entry.length)) ∧ ((InR x2 a0.Exit.length)) ∧ ∃ o2 : Fin Unit Bool, Loop (graph_procsRight.b2 a0 x2) 0 o2 ∧ o2.on (fun _ => z1 = .next (IntKind.i64.wrap (x2 + 1))) (fun r_ => z1 = .ret r_)) else (z1 = .exit ())
def graph_procsRight.f (a0 : TGraph) (r : Bool) : Prop :=
  ∃ t3_36 : Bool, (¬ ((a0.Vars.length : Int) > 64) → ¬ ((a0.Procs.length : Int) < 1) → ¬ ((a0.Procs.length : Int) > 1024) → ((a0.Entry.length : Int) = (a0.Procs.length : Int)) → ((a0.Exit.length : Int) = (a0.Procs.length : Int)) → ¬ ((a0.Of.length : Int) > 4096) → graph_in.f a0.Main (a0.Procs.length : Int) t3_36) ∧ if ((decide ((a0.Vars.length : Int) > 64)) || ((decide ((a0.Procs.length : Int) < 1)) || ((decide ((a0.Procs.length : Int) > 1024)) || ((!((a0.Entry.length : Int) == (a0.Procs.length : Int))) || ((!((a0.Exit.length : Int) == (a0.Procs.length : Int))) || ((decide ((a0.Of.length : Int) > 4096)) || (!t3_36))))))) = true then (r = false) else (∃ t5_3 : Bool, (slices_ContainsFunc_int.f a0.Of (fun x0_ y_ => graph_procsRight_1.f x0_ (a0.Procs.length : Int) y_) t5_3) ∧ if t5_3 = true then (r = false) else (∃ o1 : Fin Unit Bool, Loop (graph_procsRight.b1 a0) 0 o1 ∧ o1.on (fun _ => ∃ t55_8 : Bool, (((a0.Sites.length : Int) ≤ 1024) → slices_ContainsFunc_Site.f a0.Sites (fun x0_ y_ => graph_procsRight_2.f x0_ (a0.Procs.length : Int) y_) t55_8) ∧ r = ((decide ((a0.Sites.length : Int) ≤ 1024)) && (!t55_8))) (fun r_ => r = r_)))
theorem graph_procsRight.D {a0 r} (h : graph_procsRight.f a0 r) : D Tryz.prog X (.callH 41 [.agg (TGraph.lit a0)] [] (.val (.bool r)) []) := by
  unfold graph_procsRight.f at h
  refine .enter 101 0 fn41 q q q<|.seq<|.room 0<|.reg0 q (.o (bxP (s := 10) (cs := (TGraph.lit a0)) q ⟨q, by decide, q⟩ q)<|.o (asV q)<|.nil0)<|.seq<|.room 0<|.reg0 q (.o (faP fa29_1 q)<|.o (ldP q sz22 ag22 q)<|.o (lnR (l := a0.Procs) sl22 q)<|.op 1 q (alP (s := 1) ze3 ⟨q, by decide, q⟩ q)<|.o (stB (cs0 := [i6 0]) (cs := [i6 (a0.Procs.length : Int)]) (cs1 := [i6 (a0.Procs.length : Int)]) q q sz3 q ⟨Nat.le_of_ble_eq_true q, q⟩ q)<|.nil0) ?_
  refine .seq<|.seq ?_
  obtain ⟨t3_36, g3_36, h⟩ := h
  refine .reg0 (e1 := listEnv [(1, .ptr 0 1 10 0 0), (3, .ptr 1 1 1 0 0), (48, bo ((decide ((a0.Vars.length : Int) > 64)) || ((decide ((a0.Procs.length : Int) < 1)) || ((decide ((a0.Procs.length : Int) > 1024)) || ((!((a0.Entry.length : Int) == (a0.Procs.length : Int))) || ((!((a0.Exit.length : Int) == (a0.Procs.length : Int))) || ((decide ((a0.Of.length : Int) > 4096)) || (!t3_36))))))))]) (H1 := [⟨10, [(TGraph.lit a0)], 0, none⟩, ⟨1, [[i6 (a0.Procs.length : Int)]], 0, none⟩]) q ?_ ?_
  · refine .o (faP fa29_0 q)<|.o (ldP q sz22 ag22 q)<|.o (lnR (l := a0.Vars) sl22 q)<|.o (gtI q q)<|.m q<|?_
    by_cases c1 : (a0.Vars.length : Int) > 64
    · exact (.n q (dt c1)<|.n q (dt c1)<|.o (pkTV q (dt c1) q)<|.m q<|.n q q<|.n q q<|.o (pkTV q q q)<|.m q<|.n q q<|.n q q<|.n q q<|.n q q<|.n q q<|.o (pkTV q q q)<|.m q<|.n q q<|.n q q<|.n q q<|.n q q<|.n q q<|.o (pkTV q q q)<|.m q<|.n q q<|.n q q<|.n q q<|.n q q<|.o (pkTV q q q)<|.m q<|.n q q<|.n q q<|.n q q<|.n q q<|.n q q<|.o (pkTV q q q)<|.nilL _ ⟨.ptr q, .ptr q, cB q (mOrT (dt c1)), trivial⟩)
    · refine .g q (df c1) (ldP q sz3 ag3 q)<|.g q (df c1) (ltI q q)<|.o (pkFV q (df c1) q)<|.m q<|?_
      by_cases c2 : (a0.Procs.length : Int) < 1
      · exact (.n q (dt c2)<|.n q (dt c2)<|.o (pkTV q (dt c2) q)<|.m q<|.n q q<|.n q q<|.n q q<|.n q q<|.n q q<|.o (pkTV q q q)<|.m q<|.n q q<|.n q q<|.n q q<|.n q q<|.n q q<|.o (pkTV q q q)<|.m q<|.n q q<|.n q q<|.n q q<|.n q q<|.o (pkTV q q q)<|.m q<|.n q q<|.n q q<|.n q q<|.n q q<|.n q q<|.o (pkTV q q q)<|.nilL _ ⟨.ptr q, .ptr q, cB q (mOrF (df c1) (mOrT (dt c2))), trivial⟩)
      · refine .g q (df c2) (ldP q sz3 ag3 q)<|.g q (df c2) (gtI q q)<|.o (pkFV q (df c2) q)<|.m q<|?_
        by_cases c3 : (a0.Procs.length : Int) > 1024
        · exact (.n q (dt c3)<|.n q (dt c3)<|.n q (dt c3)<|.n q (dt c3)<|.n q (dt c3)<|.o (pkTV q (dt c3) q)<|.m q<|.n q q<|.n q q<|.n q q<|.n q q<|.n q q<|.o (pkTV q q q)<|.m q<|.n q q<|.n q q<|.n q q<|.n q q<|.o (pkTV q q q)<|.m q<|.n q q<|.n q q<|.n q q<|.n q q<|.n q q<|.o (pkTV q q q)<|.nilL _ ⟨.ptr q, .ptr q, cB q (mOrF (df c1) (mOrF (df c2) (mOrT (dt c3)))), trivial⟩)
        · refine .g q (df c3) (faP fa29_2 q)<|.g q (df c3) (ldP q sz23 ag23 q)<|.g q (df c3) (lnR (l := a0.Entry) sl23 q)<|.g q (df c3) (ldP q sz3 ag3 q)<|.g q (df c3) (neI q q)<|.o (pkFV q (df c3) q)<|.m q<|?_
          by_cases c4 : (a0.Entry.length : Int) = (a0.Procs.length : Int)
          · refine .g q (nf c4) (faP fa29_3 q)<|.g q (nf c4) (ldP q sz23 ag23 q)<|.g q (nf c4) (lnR (l := a0.Exit) sl23 q)<|.g q (nf c4) (ldP q sz3 ag3 q)<|.g q (nf c4) (neI q q)<|.o (pkFV q (nf c4) q)<|.m q<|?_
            by_cases c5 : (a0.Exit.length : Int) = (a0.Procs.length : Int)
            · refine .g q (nf c5) (faP fa29_5 q)<|.g q (nf c5) (ldP q sz23 ag23 q)<|.g q (nf c5) (lnR (l := a0.Of) sl23 q)<|.g q (nf c5) (gtI q q)<|.o (pkFV q (nf c5) q)<|.m q<|?_
              by_cases c6 : (a0.Of.length : Int) > 4096
              · exact (.n q (dt c6)<|.n q (dt c6)<|.n q (dt c6)<|.n q (dt c6)<|.n q (dt c6)<|.o (pkTV q (dt c6) q)<|.nilL _ ⟨.ptr q, .ptr q, cB q (mOrF (df c1) (mOrF (df c2) (mOrF (df c3) (mOrF (bnotF (bt c4)) (mOrF (bnotF (bt c5)) (mOrT (dt c6))))))), trivial⟩)
              · exact (.g q (df c6) (faP fa29_4 q)<|.g q (df c6) (ldP q sz3 ag3 q)<|.g q (df c6) (ldP q sz3 ag3 q)<|.callI (gT q q q (df c6)) (callee_of q go45 q) (.pure q q (graph_in.D (g3_36 c1 c2 c3 c4 c5 c6)))<|.g q (df c6) (notB q)<|.o (pkFV q (df c6) q)<|.nilL _ ⟨.ptr q, .ptr q, cB q (mOrF (df c1) (mOrF (df c2) (mOrF (df c3) (mOrF (bnotF (bt c4)) (mOrF (bnotF (bt c5)) (mOrF (df c6) q)))))), trivial⟩)
            · exact (.n q (nt c5)<|.n q (nt c5)<|.n q (nt c5)<|.n q (nt c5)<|.o (pkTV q (nt c5) q)<|.m q<|.n q q<|.n q q<|.n q q<|.n q q<|.n q q<|.o (pkTV q q q)<|.nilL _ ⟨.ptr q, .ptr q, cB q (mOrF (df c1) (mOrF (df c2) (mOrF (df c3) (mOrF (bnotF (bt c4)) (mOrT (bnotT (bn c5))))))), trivial⟩)
          · exact (.n q (nt c4)<|.n q (nt c4)<|.n q (nt c4)<|.n q (nt c4)<|.n q (nt c4)<|.o (pkTV q (nt c4) q)<|.m q<|.n q q<|.n q q<|.n q q<|.n q q<|.o (pkTV q q q)<|.m q<|.n q q<|.n q q<|.n q q<|.n q q<|.n q q<|.o (pkTV q q q)<|.nilL _ ⟨.ptr q, .ptr q, cB q (mOrF (df c1) (mOrF (df c2) (mOrF (df c3) (mOrT (bnotT (bn c4)))))), trivial⟩)
  by_cases c7 : ((decide ((a0.Vars.length : Int) > 64)) || ((decide ((a0.Procs.length : Int) < 1)) || ((decide ((a0.Procs.length : Int) > 1024)) || ((!((a0.Entry.length : Int) == (a0.Procs.length : Int))) || ((!((a0.Exit.length : Int) == (a0.Procs.length : Int))) || ((decide ((a0.Of.length : Int) > 4096)) || (!t3_36))))))) = true
  · rw [if_pos c7] at h
    refine .condT q c7<|.seq<|.reg0 q (.o (asV q)<|.nil0) ?_
    replace h := h.symm
    subst h
    refine .kf [(2, bo false)] q q ?_
    exact .ret q
  · rw [if_neg c7] at h
    refine .condF q (nb c7)<|.skip<|.seq<|.seq ?_
    obtain ⟨t5_3, g5_3, h⟩ := h
    refine .reg0 q (.o (faP fa29_5 q)<|.o (ldP q sz23 ag23 q)<|.o (mkF q)<|.callI q (callee_of q go67 q) (.lendC (args' := [.rows (a0.Of.map (cInt .i64)), .clo 68 [.cptr [i6 (a0.Procs.length : Int)] 0]])  [1] false (.cons (.free q q)<|.cons (cClo (.cons (cFixP q q (.cons (.free q q)<|.nil))<|.nil))<|.nil) (by decide) q q q q (slices_ContainsFunc_int.D (k1_ := [.cptr [i6 (a0.Procs.length : Int)] 0]) go68 q q (fun x0_ y_ h_ => graph_procsRight_1.D h_) g5_3))<|.nil0) ?_
    by_cases c8 : t5_3 = true
    · rw [if_pos c8] at h
      refine .condT q c8<|.seq<|.reg0 q (.o (asV q)<|.nil0) ?_
      replace h := h.symm
      subst h
      refine .kf [(2, bo false)] q q ?_
      exact .ret q
    · rw [if_neg c8] at h
      refine .condF q (nb c8)<|.skip<|.seq<|.seq<|.reg0 q (.o (ldP q sz3 ag3 q)<|.o (mvV q)<|.nil0)<|.block<|.keepL [0, 1] [(1, .ptr 0 1 10 0 0), (3, .ptr 1 1 1 0 0), (53, i6 (a0.Procs.length : Int)), (54, i6 0)] [⟨10, [(TGraph.lit a0)], 0, none⟩, ⟨1, [[i6 (a0.Procs.length : Int)]], 0, none⟩] (by decide) (by decide) ⟨.ptr q, .ptr q, .free q q, .free q q, trivial⟩ ⟨⟨_, q, bcBox (all2_free q)⟩, ⟨_, q, bcBox (all2_free q)⟩, trivial⟩ ?_
      obtain ⟨o1, hL1, h⟩ := h
      refine .loopB (graph_procsRight.b1 a0) (fun x2 => listEnv [(1, .ptr 0 1 10 0 0), (3, .ptr 1 1 1 0 0), (53, i6 (a0.Procs.length : Int)), (54, i6 x2)]) (fun x2 => [⟨10, [(TGraph.lit a0)], 0, none⟩, ⟨1, [[i6 (a0.Procs.length : Int)]], 0, none⟩]) (fun _ => listEnv [(1, .ptr 0 1 10 0 0), (3, .ptr 1 1 1 0 0)]) (fun _ => [⟨10, [(TGraph.lit a0)], 0, none⟩, ⟨1, [[i6 (a0.Procs.length : Int)]], 0, none⟩]) hL1 (fun r_ => r = r_) ?_ ?_ ?_
      · rintro ⟨⟩ rfl
        try dsimp only [Fin.on] at h
        refine .seq ?_
        obtain ⟨t55_8, g55_8, h⟩ := h
        refine .reg0 (e1 := listEnv [(2, bo ((decide ((a0.Sites.length : Int) ≤ 1024)) && (!t55_8)))]) (H1 := [⟨10, [(TGraph.lit a0)], 0, none⟩, ⟨1, [[i6 (a0.Procs.length : Int)]], 0, none⟩]) q ?_ ?_
        · refine .o (faP fa29_7 q)<|.o (ldP q sz25 ag25 q)<|.o (lnR (l := a0.Sites) sl25 q)<|.o (leI q q)<|.m q<|?_
          by_cases c33 : (a0.Sites.length : Int) ≤ 1024
          · exact (.g q (dt c33) (faP fa29_7 q)<|.g q (dt c33) (ldP q sz25 ag25 q)<|.g q (dt c33) (mkF q)<|.callI (gT q q q (dt c33)) (callee_of q go69 q) (.lendC (args' := [.rows (a0.Sites.map TSite.cells), .clo 70 [.cptr [i6 (a0.Procs.length : Int)] 0]])  [1] false (.cons (.free q q)<|.cons (cClo (.cons (cFixP q q (.cons (.free q q)<|.nil))<|.nil))<|.nil) (by decide) q q q q (slices_ContainsFunc_Site.D (k1_ := [.cptr [i6 (a0.Procs.length : Int)] 0]) go70 q q (fun x0_ y_ h_ => graph_procsRight_2.D h_) (g55_8 c33)))<|.g q (dt c33) (notB q)<|.o (pkTV q (dt c33) q)<|.a q<|.nilL _ ⟨cB q (mAndT (dt c33) q), trivial⟩)
          · exact (.n q (df c33)<|.n q (df c33)<|.n q (df c33)<|.n q (df c33)<|.n q (df c33)<|.o (pkFV q (df c33) q)<|.a q<|.nilL _ ⟨cB q (mAndF (df c33)), trivial⟩)
        replace h := h.symm
        subst h
        refine .kf [(2, bo ((decide ((a0.Sites.length : Int) ≤ 1024)) && (!t55_8)))] q q ?_
        exact .ret q
      · rintro r_ rfl
        exact h
      · rintro x2 z1 h hn1 hx1 hr1
        dsimp only [graph_procsRight.b1] at h
        refine .seq<|.reg0 q (.o (ltI q q)<|.nil0)<|.seq ?_
        by_cases c23 : x2 < (a0.Procs.length : Int)
        · rw [if_pos c23] at h
          refine .condT q (dt c23)<|.skip<|.seq<|.block<|.seq<|.reg0 q (.o (mvV q)<|.o (asV q)<|.nil0)<|.seq ?_
          obtain ⟨g38_3, h⟩ := h
          obtain ⟨g38_8, h⟩ := h
          refine .room 0 ?_
          refine .reg1 (e1 := listEnv [(1, .ptr 0 1 10 0 0), (3, .ptr 1 1 1 0 0), (4, i6 x2), (53, i6 (a0.Procs.length : Int)), (54, i6 x2), (67, .own 2 ([(rdl a0.Entry x2), (rdl a0.Exit x2)].length)), (68, i6 ([(rdl a0.Entry x2), (rdl a0.Exit x2)].length : Int)), (69, i6 0)]) (H1 := [⟨10, [(TGraph.lit a0)], 0, none⟩, ⟨1, [[i6 (a0.Procs.length : Int)]], 0, none⟩, ⟨1, [(rdl a0.Entry x2), (rdl a0.Exit x2)].map (cInt .i64), 0, none⟩]) q ?_ ?_
          · exact .drawM [(12, 69, i6 0), (11, 68, i6 ([(rdl a0.Entry x2), (rdl a0.Exit x2)].length : Int)), (10, 67, .own 2 ([(rdl a0.Entry x2), (rdl a0.Exit x2)].length)), (9, 66, i6 (rdl a0.Exit x2)), (8, 65, .cptr ((cInt .i64) (rdl a0.Exit x2)) 0), (7, 64, i6 x2), (6, 63, .rows (a0.Exit.map (cInt .i64))), (5, 62, .ptr 0 1 10 0 3), (4, 61, i6 (rdl a0.Entry x2)), (3, 60, .cptr ((cInt .i64) (rdl a0.Entry x2)) 0), (2, 59, i6 x2), (1, 58, .rows (a0.Entry.map (cInt .i64))), (0, 57, .ptr 0 1 10 0 2)] [(10, 2, ⟨1, [(rdl a0.Entry x2), (rdl a0.Exit x2)].map (cInt .i64), 0, none⟩)] [[], [0], [], [1, 0, 2], [3, 1, 0, 2], [], [5], [], [6, 5, 7], [8, 6, 5, 7], [4, 3, 1, 0, 2, 9, 8, 6, 5, 7], [10, 4, 3, 1, 0, 2, 9, 8, 6, 5, 7], []] (by rfl) (by rfl) (by rfl) (by exact ⟨oP (fun _ => faP fa29_2 q) q, oP (fun _ => ldP q sz23 ag23 q) q, oP (fun _ => mvV q) q, oP (fun _ => ixR (l := a0.Entry) (lit := (cInt .i64)) sl23 q q (fun _ => q) g38_3.1 g38_3.2) q, oP (fun _ => ldC q sz3 ag3 q) q, oP (fun _ => faP fa29_3 q) q, oP (fun _ => ldP q sz23 ag23 q) q, oP (fun _ => mvV q) q, oP (fun _ => ixR (l := a0.Exit) (lit := (cInt .i64)) sl23 q q (fun _ => q) g38_8.1 g38_8.2) q, oP (fun _ => ldC q sz3 ag3 q) q, oW 2 (fun _ => bldL (s := 1) (cs := [i6 (rdl a0.Entry x2), i6 (rdl a0.Exit x2)]) un23 sz3 ze3 ⟨by decide, q, by decide⟩ q q q q) q fun _ => q, oP (fun _ => lnO (l := [(rdl a0.Entry x2), (rdl a0.Exit x2)]) sl23 q q q) q, oP (fun _ => mvV q) q, trivial⟩) _ (by exact ⟨.ptr q, .ptr q, .free q q, .free q q, .free q q, .own q, .free q q, .free q q, trivial⟩) (by rfl)
          refine .block<|.keepL [0, 1, 2] [(1, .ptr 0 1 10 0 0), (3, .ptr 1 1 1 0 0), (4, i6 x2), (53, i6 (a0.Procs.length : Int)), (54, i6 x2), (67, .own 2 ([(rdl a0.Entry x2), (rdl a0.Exit x2)].length)), (68, i6 ([(rdl a0.Entry x2), (rdl a0.Exit x2)].length : Int)), (69, i6 0)] [⟨10, [(TGraph.lit a0)], 0, none⟩, ⟨1, [[i6 (a0.Procs.length : Int)]], 0, none⟩, ⟨1, [(rdl a0.Entry x2), (rdl a0.Exit x2)].map (cInt .i64), 0, none⟩] (by decide) (by decide) ⟨.ptr q, .ptr q, .free q q, .free q q, .free q q, .own q, .free q q, .free q q, trivial⟩ ⟨⟨_, q, bcBox (all2_free q)⟩, ⟨_, q, bcBox (all2_free q)⟩, ⟨_, q, bcRow (l := [(rdl a0.Entry x2), (rdl a0.Exit x2)]) sl23 (Nat.le_refl _) q⟩, trivial⟩ ?_
          obtain ⟨o2, hL2, h⟩ := h
          refine .loopB (graph_procsRight.b2 a0 x2) (fun x4 => listEnv [(1, .ptr 0 1 10 0 0), (3, .ptr 1 1 1 0 0), (4, i6 x2), (53, i6 (a0.Procs.length : Int)), (54, i6 x2), (67, .own 2 ([(rdl a0.Entry x2), (rdl a0.Exit x2)].length)), (68, i6 ([(rdl a0.Entry x2), (rdl a0.Exit x2)].length : Int)), (69, i6 x4)]) (fun x4 => [⟨10, [(TGraph.lit a0)], 0, none⟩, ⟨1, [[i6 (a0.Procs.length : Int)]], 0, none⟩, ⟨1, [(rdl a0.Entry x2), (rdl a0.Exit x2)].map (cInt .i64), 0, none⟩]) (fun _ => listEnv [(1, .ptr 0 1 10 0 0), (3, .ptr 1 1 1 0 0), (53, i6 (a0.Procs.length : Int)), (54, i6 x2)]) (fun _ => [⟨10, [(TGraph.lit a0)], 0, none⟩, ⟨1, [[i6 (a0.Procs.length : Int)]], 0, none⟩]) hL2 (fun r_ => z1 = .ret r_) ?_ ?_ ?_
          · rintro ⟨⟩ rfl
            try dsimp only [Fin.on] at h
            refine .inBlock<|.reg0 q (.o (addI q q)<|.o (mvV q)<|.nil0)<|.keepL [0, 1] [(1, .ptr 0 1 10 0 0), (3, .ptr 1 1 1 0 0), (53, i6 (a0.Procs.length : Int)), (54, i6 (IntKind.i64.wrap (x2 + 1)))] [⟨10, [(TGraph.lit a0)], 0, none⟩, ⟨1, [[i6 (a0.Procs.length : Int)]], 0, none⟩] (by decide) (by decide) ⟨.ptr q, .ptr q, .free q q, .free q q, trivial⟩ ⟨⟨_, q, bcBox (all2_free q)⟩, ⟨_, q, bcBox (all2_free q)⟩, trivial⟩ ?_
            exact hn1 _ h
          · rintro r_ rfl
            exact h
          · rintro x4 z2 h hn2 hx2 hr2
            dsimp only [graph_procsRight.b2] at h
            refine .seq<|.reg0 q (.o (ltI q q)<|.nil0)<|.seq ?_
            by_cases c30 : x4 < ([(rdl a0.Entry x2), (rdl a0.Exit x2)].length : Int)
            · rw [if_pos c30] at h
              refine .condT q (dt c30)<|.skip<|.seq<|.block<|.seq ?_
              obtain ⟨g50_0, h⟩ := h
              refine .reg0 q (.o (ixO (l := [(rdl a0.Entry x2), (rdl a0.Exit x2)]) sl23 q q q q g50_0.1 g50_0.2)<|.o (ldO (l := [(rdl a0.Entry x2), (rdl a0.Exit x2)]) (j := x4) sl23 q sz3 ag3 q q (fun _ => q) g50_0.1 g50_0.2 (by decide) q)<|.a q<|.nil0)<|.seq ?_
              obtain ⟨t51_4, g51_4, h⟩ := h
              obtain ⟨g51_10, h⟩ := h
              refine .reg0 (e1 := listEnv [(1, .ptr 0 1 10 0 0), (3, .ptr 1 1 1 0 0), (4, i6 x2), (53, i6 (a0.Procs.length : Int)), (54, i6 x2), (67, .own 2 ([(rdl a0.Entry x2), (rdl a0.Exit x2)].length)), (68, i6 ([(rdl a0.Entry x2), (rdl a0.Exit x2)].length : Int)), (69, i6 x4), (87, bo ((!t51_4) || ((rdl a0.Of (rdl [(rdl a0.Entry x2), (rdl a0.Exit x2)] x4)) != x2)))]) (H1 := [⟨10, [(TGraph.lit a0)], 0, none⟩, ⟨1, [[i6 (a0.Procs.length : Int)]], 0, none⟩, ⟨1, [(rdl a0.Entry x2), (rdl a0.Exit x2)].map (cInt .i64), 0, none⟩]) q ?_ ?_
              · refine .m q<|.o (faP fa29_5 q)<|.o (ldP q sz23 ag23 q)<|.o (lnR (l := a0.Of) sl23 q)<|.c q go45 q q q (graph_in.D g51_4)<|.o (notB q)<|.m q<|?_
                by_cases c31 : t51_4 = true
                · exact (.g q (bnotF c31) (faP fa29_5 q)<|.g q (bnotF c31) (ldP q sz23 ag23 q)<|.g q (bnotF c31) (mvV q)<|.g q (bnotF c31) (ixR (l := a0.Of) (lit := (cInt .i64)) sl23 q q (fun _ => q) (g51_10 c31).1 (g51_10 c31).2)<|.g q (bnotF c31) (ldC q sz3 ag3 q)<|.g q (bnotF c31) (mvV q)<|.g q (bnotF c31) (neI q q)<|.o (pkFV q (bnotF c31) q)<|.nilL _ ⟨.ptr q, .ptr q, .free q q, .free q q, .free q q, .own q, .free q q, .free q q, cB q (mOrF (bnotF c31) q), trivial⟩)
                · exact (.n q (bnotT (nb c31))<|.n q (bnotT (nb c31))<|.n q (bnotT (nb c31))<|.n q (bnotT (nb c31))<|.n q (bnotT (nb c31))<|.n q (bnotT (nb c31))<|.n q (bnotT (nb c31))<|.o (pkTV q (bnotT (nb c31)) q)<|.nilL _ ⟨.ptr q, .ptr q, .free q q, .free q q, .free q q, .own q, .free q q, .free q q, cB q (mOrT (bnotT (nb c31))), trivial⟩)
              by_cases c32 : ((!t51_4) || ((rdl a0.Of (rdl [(rdl a0.Entry x2), (rdl a0.Exit x2)] x4)) != x2)) = true
              · rw [if_pos c32] at h
                refine .condT q c32<|.seq<|.reg0 q (.o (asV q)<|.nil0) ?_
                have q13 := hr2 _ h
                have q14 := hr1 _ q13
                replace q14 := q14.symm
                subst q14
                refine .kf [(2, bo false)] q q ?_
                exact .ret q
              · rw [if_neg c32] at h
                refine .condF q (nb c32)<|.skip<|.inBlock<|.reg0 q (.o (addI q q)<|.o (mvV q)<|.nil0)<|.keepL [0, 1, 2] [(1, .ptr 0 1 10 0 0), (3, .ptr 1 1 1 0 0), (4, i6 x2), (53, i6 (a0.Procs.length : Int)), (54, i6 x2), (67, .own 2 ([(rdl a0.Entry x2), (rdl a0.Exit x2)].length)), (68, i6 ([(rdl a0.Entry x2), (rdl a0.Exit x2)].length : Int)), (69, i6 (IntKind.i64.wrap (x4 + 1)))] [⟨10, [(TGraph.lit a0)], 0, none⟩, ⟨1, [[i6 (a0.Procs.length : Int)]], 0, none⟩, ⟨1, [(rdl a0.Entry x2), (rdl a0.Exit x2)].map (cInt .i64), 0, none⟩] (by decide) (by decide) ⟨.ptr q, .ptr q, .free q q, .free q q, .free q q, .own q, .free q q, .free q q, trivial⟩ ⟨⟨_, q, bcBox (all2_free q)⟩, ⟨_, q, bcBox (all2_free q)⟩, ⟨_, q, bcRow (l := [(rdl a0.Entry x2), (rdl a0.Exit x2)]) sl23 (Nat.le_refl _) q⟩, trivial⟩ ?_
                exact hn2 _ h
            · rw [if_neg c30] at h
              refine .condF q (df c30)<|.exit q<|.keepL [0, 1] [(1, .ptr 0 1 10 0 0), (3, .ptr 1 1 1 0 0), (53, i6 (a0.Procs.length : Int)), (54, i6 x2)] [⟨10, [(TGraph.lit a0)], 0, none⟩, ⟨1, [[i6 (a0.Procs.length : Int)]], 0, none⟩] (by decide) (by decide) ⟨.ptr q, .ptr q, .free q q, .free q q, trivial⟩ ⟨⟨_, q, bcBox (all2_free q)⟩, ⟨_, q, bcBox (all2_free q)⟩, trivial⟩ ?_
              exact hx2 _ h
        · rw [if_neg c23] at h
          refine .condF q (df c23)<|.exit q<|.keepL [0, 1] [(1, .ptr 0 1 10 0 0), (3, .ptr 1 1 1 0 0)] [⟨10, [(TGraph.lit a0)], 0, none⟩, ⟨1, [[i6 (a0.Procs.length : Int)]], 0, none⟩] (by decide) (by decide) ⟨.ptr q, .ptr q, trivial⟩ ⟨⟨_, q, bcBox (all2_free q)⟩, ⟨_, q, bcBox (all2_free q)⟩, trivial⟩ ?_
          exact hx1 _ h
def graph_stepRight.j1 (a0 : TGraph) (a1 : TStep) : Unit → Bool → Prop := fun _ r => ∃ t63_5 : Bool, (graph_in.f a1.Site (a0.Sites.length : Int) t63_5) ∧ ((t63_5 = true) → (InR a1.Site a0.Sites.length)) ∧ ((t63_5 = true) → ((rdl a0.Sites a1.Site).From = a1.From) → (InR a1.Site a0.Sites.length)) ∧ if ((!t63_5) || ((!((rdl a0.Sites a1.Site).From == a1.From)) || ((rdl a0.Sites a1.Site).Back != a1.To))) = true then (r = false) else (r = ((0 == 0) && ((0 == 0) && ((0 == 0) && ((a1.X == 0) && ((a1.Y == 0) && ((a1.K == 0) && ((0 == 0) && true))))))))
def graph_stepRight.j2 (a1 : TStep) (t4_5 : Bool) (t4_11 : Bool) : Unit → Bool → Prop := fun _ r => r = (t4_5 && (t4_11 && ((0 == 0) && ((0 == 0) && ((0 == 0) && ((0 == 0) && ((0 == 0) && ((a1.K == 0) && ((a1.Site == 0) && true)))))))))
def graph_stepRight.j3 (a1 : TStep) (t4_5 : Bool) : Int → Bool → Prop := fun x11 r => r = (t4_5 && ((0 == 0) && ((0 == 0) && ((0 == 0) && ((0 == 0) && ((a1.Y == 0) && ((x11 == 0) && ((a1.Site == 0) && true))))))))
def graph_stepRight.j4 (a0 : TGraph) (a1 : TStep) (t4_5 : Bool) (t4_11 : Bool) : Bool → Bool → Prop := fun x12 r => if x12 = true then (graph_stepRight.j3 a1 t4_5 a1.K r) else (if a1.Kind = 3 then (graph_stepRight.j2 a1 t4_5 t4_11 () r) else (if a1.Kind = 8 then (graph_stepRight.j1 a0 a1 () r) else (r = false)))
def graph_stepRight.f (a0 : TGraph) (a1 : TStep) (r : Bool) : Prop :=
  ∃ t2_5 : Bool, (graph_in.f a1.From (a0.Of.length : Int) t2_5) ∧ ∃ t2_13 : Bool, ((t2_5 = true) → graph_in.f a1.To (a0.Of.length : Int) t2_13) ∧ ((t2_5 = true) → (t2_13 = true) → (InR a1.From a0.Of.length)) ∧ ((t2_5 = true) → (t2_13 = true) → (InR a1.To a0.Of.length)) ∧ if ((!t2_5) || ((!t2_13) || ((rdl a0.Of a1.From) != (rdl a0.Of a1.To)))) = true then (r = false) else (∃ t4_5 : Bool, (graph_in.f a1.X (a0.Vars.length : Int) t4_5) ∧ ∃ t4_11 : Bool, (graph_in.f a1.Y (a0.Vars.length : Int) t4_11) ∧ if a1.Kind = 1 then (r = ((0 == 0) && ((0 == 0) && ((0 == 0) && ((a1.X == 0) && ((a1.Y == 0) && ((a1.K == 0) && ((a1.Site == 0) && true)))))))) else (if a1.Kind = 2 then (graph_stepRight.j3 a1 t4_5 0 r) else (if a1.Kind = 4 then (graph_stepRight.j4 a0 a1 t4_5 t4_11 (a1.Kind == 4) r) else (if a1.Kind = 5 then (graph_stepRight.j4 a0 a1 t4_5 t4_11 (a1.Kind == 5) r) else (graph_stepRight.j4 a0 a1 t4_5 t4_11 (a1.Kind == 6) r)))))
abbrev GC_A0 : List (List Nat) := [[], [0], [], [2], [3, 2], [1, 0, 4, 3, 2], [5, 1, 0, 4, 3, 2], [6, 5, 1, 0, 4, 3, 2], [7, 6, 5, 1, 0, 4, 3, 2], [8, 7, 6, 5, 1, 0, 4, 3, 2], [7, 6, 5, 1, 0, 4, 3, 2], [10, 7, 6, 5, 1, 0, 4, 3, 2], [11, 10, 7, 6, 5, 1, 0, 4, 3, 2], [9, 8, 7, 6, 5, 1, 0, 4, 3, 2, 12, 11, 10], [13, 9, 8, 7, 6, 5, 1, 0, 4, 3, 2, 12, 11, 10], [7, 6, 5, 1, 0, 4, 3, 2, 14, 13, 9, 8, 12, 11, 10], [15, 7, 6, 5, 1, 0, 4, 3, 2, 14, 13, 9, 8, 12, 11, 10], [16, 15, 7, 6, 5, 1, 0, 4, 3, 2, 14, 13, 9, 8, 12, 11, 10], [17, 16, 15, 7, 6, 5, 1, 0, 4, 3, 2, 14, 13, 9, 8, 12, 11, 10], [16, 15, 7, 6, 5, 1, 0, 4, 3, 2, 14, 13, 9, 8, 12, 11, 10], [19, 16, 15, 7, 6, 5, 1, 0, 4, 3, 2, 14, 13, 9, 8, 12, 11, 10], [18, 17, 16, 15, 7, 6, 5, 1, 0, 4, 3, 2, 14, 13, 9, 8, 12, 11, 10, 20, 19], [21, 18, 17, 16, 15, 7, 6, 5, 1, 0, 4, 3, 2, 14, 13, 9, 8, 12, 11, 10, 20, 19], [16, 15, 7, 6, 5, 1, 0, 4, 3, 2, 14, 13, 9, 8, 12, 11, 10], [23, 16, 15, 7, 6, 5, 1, 0, 4, 3, 2, 14, 13, 9, 8, 12, 11, 10], [16, 15, 7, 6, 5, 1, 0, 4, 3, 2, 14, 13, 9, 8, 12, 11, 10], [25, 16, 15, 7, 6, 5, 1, 0, 4, 3, 2, 14, 13, 9, 8, 12, 11, 10], [24, 23, 16, 15, 7, 6, 5, 1, 0, 4, 3, 2, 14, 13, 9, 8, 12, 11, 10, 26, 25], [27, 24, 23, 16, 15, 7, 6, 5, 1, 0, 4, 3, 2, 14, 13, 9, 8, 12, 11, 10, 26, 25], [22, 21, 18, 17, 16, 15, 7, 6, 5, 1, 0, 4, 3, 2, 14, 13, 9, 8, 12, 11, 10, 20, 19, 28, 27, 24, 23, 26, 25], [16, 15, 7, 6, 5, 1, 0, 4, 3, 2, 14, 13, 9, 8, 12, 11, 10, 29, 22, 21, 18, 17, 20, 19, 28, 27, 24, 23, 26, 25]]
abbrev GC_A1 : List (List Nat) := [[], [0], [], [2], [3, 2], [1, 0, 4, 3, 2], [5, 1, 0, 4, 3, 2], [6, 5, 1, 0, 4, 3, 2], [7, 6, 5, 1, 0, 4, 3, 2], [8, 7, 6, 5, 1, 0, 4, 3, 2], [7, 6, 5, 1, 0, 4, 3, 2], [10, 7, 6, 5, 1, 0, 4, 3, 2], [9, 8, 7, 6, 5, 1, 0, 4, 3, 2, 11, 10], [12, 9, 8, 7, 6, 5, 1, 0, 4, 3, 2, 11, 10], [13, 12, 9, 8, 7, 6, 5, 1, 0, 4, 3, 2, 11, 10], [7, 6, 5, 1, 0, 4, 3, 2], [15, 7, 6, 5, 1, 0, 4, 3, 2], [14, 13, 12, 9, 8, 7, 6, 5, 1, 0, 4, 3, 2, 11, 10, 16, 15], [7, 6, 5, 1, 0, 4, 3, 2, 17, 14, 13, 12, 9, 8, 11, 10, 16, 15], [18, 7, 6, 5, 1, 0, 4, 3, 2, 17, 14, 13, 12, 9, 8, 11, 10, 16, 15], [19, 18, 7, 6, 5, 1, 0, 4, 3, 2, 17, 14, 13, 12, 9, 8, 11, 10, 16, 15], [20, 19, 18, 7, 6, 5, 1, 0, 4, 3, 2, 17, 14, 13, 12, 9, 8, 11, 10, 16, 15], [19, 18, 7, 6, 5, 1, 0, 4, 3, 2, 17, 14, 13, 12, 9, 8, 11, 10, 16, 15], [22, 19, 18, 7, 6, 5, 1, 0, 4, 3, 2, 17, 14, 13, 12, 9, 8, 11, 10, 16, 15], [21, 20, 19, 18, 7, 6, 5, 1, 0, 4, 3, 2, 17, 14, 13, 12, 9, 8, 11, 10, 16, 15, 23, 22], [24, 21, 20, 19, 18, 7, 6, 5, 1, 0, 4, 3, 2, 17, 14, 13, 12, 9, 8, 11, 10, 16, 15, 23, 22], [25, 24, 21, 20, 19, 18, 7, 6, 5, 1, 0, 4, 3, 2, 17, 14, 13, 12, 9, 8, 11, 10, 16, 15, 23, 22], [19, 18, 7, 6, 5, 1, 0, 4, 3, 2, 17, 14, 13, 12, 9, 8, 11, 10, 16, 15], [27, 19, 18, 7, 6, 5, 1, 0, 4, 3, 2, 17, 14, 13, 12, 9, 8, 11, 10, 16, 15], [26, 25, 24, 21, 20, 19, 18, 7, 6, 5, 1, 0, 4, 3, 2, 17, 14, 13, 12, 9, 8, 11, 10, 16, 15, 23, 22, 28, 27], [19, 18, 7, 6, 5, 1, 0, 4, 3, 2, 17, 14, 13, 12, 9, 8, 11, 10, 16, 15, 29, 26, 25, 24, 21, 20, 23, 22, 28, 27]]
theorem graph_stepRight.D {a0 a1 r} (h : graph_stepRight.f a0 a1 r) : D Tryz.prog X (.callH 42 [.agg (TGraph.lit a0), .agg (TStep.lit a1)] [] (.val (.bool r)) []) := by
  unfold graph_stepRight.f at h
  refine .enter 123 0 fn42 q q q<|.seq<|.room 0<|.room 0<|.reg0 q (.o (bxP (s := 10) (cs := (TGraph.lit a0)) q ⟨q, by decide, q⟩ q)<|.op 1 q (bxP (s := 7) (cs := (TStep.lit a1)) q ⟨q, by decide, q⟩ q)<|.o (asV q)<|.nil0)<|.seq<|.seq ?_
  obtain ⟨t2_5, g2_5, h⟩ := h
  obtain ⟨t2_13, g2_13, h⟩ := h
  obtain ⟨g2_21, h⟩ := h
  obtain ⟨g2_27, h⟩ := h
  refine .reg1 (e1 := listEnv [(2, .ptr 0 1 10 0 0), (3, .ptr 1 1 7 0 0), (38, bo ((!t2_5) || ((!t2_13) || ((rdl a0.Of a1.From) != (rdl a0.Of a1.To)))))]) (H1 := [⟨10, [(TGraph.lit a0)], 0, none⟩, ⟨7, [(TStep.lit a1)], 0, none⟩]) q ?_ ?_
  · by_cases c1 : t2_5 = true
    · by_cases c2 : t2_13 = true
      · exact .drawM [(30, 38, bo ((rdl a0.Of a1.From) != (rdl a0.Of a1.To))), (29, 37, bo ((rdl a0.Of a1.From) != (rdl a0.Of a1.To))), (28, 36, i6 (rdl a0.Of a1.To)), (27, 35, .cptr ((cInt .i64) (rdl a0.Of a1.To)) 0), (26, 34, i6 a1.To), (25, 33, .ptr 1 1 7 0 1), (24, 32, .rows (a0.Of.map (cInt .i64))), (23, 31, .ptr 0 1 10 0 5), (22, 30, i6 (rdl a0.Of a1.From)), (21, 29, .cptr ((cInt .i64) (rdl a0.Of a1.From)) 0), (20, 28, i6 a1.From), (19, 27, .ptr 1 1 7 0 0), (18, 26, .rows (a0.Of.map (cInt .i64))), (17, 25, .ptr 0 1 10 0 5), (16, 24, bo (!t2_13)), (15, 23, bo (!t2_13)), (14, 22, bo (!t2_13)), (13, 21, bo t2_13), (12, 20, i6 (a0.Of.length : Int)), (11, 19, .rows (a0.Of.map (cInt .i64))), (10, 18, .ptr 0 1 10 0 5), (9, 17, i6 a1.To), (8, 16, .ptr 1 1 7 0 1), (7, 15, bo (!t2_5)), (6, 14, bo (!t2_5)), (5, 13, bo t2_5), (4, 12, i6 (a0.Of.length : Int)), (3, 11, .rows (a0.Of.map (cInt .i64))), (2, 10, .ptr 0 1 10 0 5), (1, 9, i6 a1.From), (0, 8, .ptr 1 1 7 0 0)] [] GC_A0 (by rfl) (by rfl) (by rfl) (by exact ⟨oP (fun _ => faP fa65_0 q) q, oP (fun _ => ldP q sz3 ag3 q) q, oP (fun _ => faP fa29_5 q) q, oP (fun _ => ldP q sz23 ag23 q) q, oP (fun _ => lnR (l := a0.Of) sl23 q) q, fun S hS hD hn => .oneI hS hD hn q q (callee_of q go45 q) (.pure q q (graph_in.D g2_5)) q q q, oP (fun _ => notB q) q, oP (fun _ => mvV q) q, oG q (fun _ => q) (bnotF c1) (fun _ => faP fa65_1 q) q, oG q (fun _ => q) (bnotF c1) (fun _ => ldP q sz3 ag3 q) q, oG q (fun _ => q) (bnotF c1) (fun _ => faP fa29_5 q) q, oG q (fun _ => q) (bnotF c1) (fun _ => ldP q sz23 ag23 q) q, oG q (fun _ => q) (bnotF c1) (fun _ => lnR (l := a0.Of) sl23 q) q, fun S hS hD hn => .oneI hS hD hn (gT q q q (bnotF c1)) q (callee_of q go45 q) (.pure q q (graph_in.D (g2_13 c1))) q q q, oG q (fun _ => q) (bnotF c1) (fun _ => notB q) q, oP (fun _ => pkFV q (bnotF c1) q) q, oP (fun _ => mvV q) q, oG q (fun _ => q) (bnotF c2) (fun _ => faP fa29_5 q) q, oG q (fun _ => q) (bnotF c2) (fun _ => ldP q sz23 ag23 q) q, oG q (fun _ => q) (bnotF c2) (fun _ => faP fa65_0 q) q, oG q (fun _ => q) (bnotF c2) (fun _ => ldP q sz3 ag3 q) q, oG q (fun _ => q) (bnotF c2) (fun _ => ixR (l := a0.Of) (lit := (cInt .i64)) sl23 q q (fun _ => q) (g2_21 c1 c2).1 (g2_21 c1 c2).2) q, oG q (fun _ => q) (bnotF c2) (fun _ => ldC q sz3 ag3 q) q, oG q (fun _ => q) (bnotF c2) (fun _ => faP fa29_5 q) q, oG q (fun _ => q) (bnotF c2) (fun _ => ldP q sz23 ag23 q) q, oG q (fun _ => q) (bnotF c2) (fun _ => faP fa65_1 q) q, oG q (fun _ => q) (bnotF c2) (fun _ => ldP q sz3 ag3 q) q, oG q (fun _ => q) (bnotF c2) (fun _ => ixR (l := a0.Of) (lit := (cInt .i64)) sl23 q q (fun _ => q) (g2_27 c1 c2).1 (g2_27 c1 c2).2) q, oG q (fun _ => q) (bnotF c2) (fun _ => ldC q sz3 ag3 q) q, oG q (fun _ => q) (bnotF c2) (fun _ => neI q q) q, oP (fun _ => pkFV q (bnotF c2) q) q, trivial⟩) _ (by exact ⟨.ptr q, .ptr q, cB q (mOrF (bnotF c1) (mOrF (bnotF c2) q)), trivial⟩) (by rfl)
      · exact .drawM [(30, 38, bo true), (29, 37, und), (28, 36, und), (27, 35, und), (26, 34, und), (25, 33, und), (24, 32, und), (23, 31, und), (22, 30, und), (21, 29, und), (20, 28, und), (19, 27, und), (18, 26, und), (17, 25, und), (16, 24, bo (!t2_13)), (15, 23, bo (!t2_13)), (14, 22, bo (!t2_13)), (13, 21, bo t2_13), (12, 20, i6 (a0.Of.length : Int)), (11, 19, .rows (a0.Of.map (cInt .i64))), (10, 18, .ptr 0 1 10 0 5), (9, 17, i6 a1.To), (8, 16, .ptr 1 1 7 0 1), (7, 15, bo (!t2_5)), (6, 14, bo (!t2_5)), (5, 13, bo t2_5), (4, 12, i6 (a0.Of.length : Int)), (3, 11, .rows (a0.Of.map (cInt .i64))), (2, 10, .ptr 0 1 10 0 5), (1, 9, i6 a1.From), (0, 8, .ptr 1 1 7 0 0)] [] GC_A0 (by rfl) (by rfl) (by rfl) (by exact ⟨oP (fun _ => faP fa65_0 q) q, oP (fun _ => ldP q sz3 ag3 q) q, oP (fun _ => faP fa29_5 q) q, oP (fun _ => ldP q sz23 ag23 q) q, oP (fun _ => lnR (l := a0.Of) sl23 q) q, fun S hS hD hn => .oneI hS hD hn q q (callee_of q go45 q) (.pure q q (graph_in.D g2_5)) q q q, oP (fun _ => notB q) q, oP (fun _ => mvV q) q, oG q (fun _ => q) (bnotF c1) (fun _ => faP fa65_1 q) q, oG q (fun _ => q) (bnotF c1) (fun _ => ldP q sz3 ag3 q) q, oG q (fun _ => q) (bnotF c1) (fun _ => faP fa29_5 q) q, oG q (fun _ => q) (bnotF c1) (fun _ => ldP q sz23 ag23 q) q, oG q (fun _ => q) (bnotF c1) (fun _ => lnR (l := a0.Of) sl23 q) q, fun S hS hD hn => .oneI hS hD hn (gT q q q (bnotF c1)) q (callee_of q go45 q) (.pure q q (graph_in.D (g2_13 c1))) q q q, oG q (fun _ => q) (bnotF c1) (fun _ => notB q) q, oP (fun _ => pkFV q (bnotF c1) q) q, oP (fun _ => mvV q) q, oN q (fun _ => q) (bnotT (nb c2)) q, oN q (fun _ => q) (bnotT (nb c2)) q, oN q (fun _ => q) (bnotT (nb c2)) q, oN q (fun _ => q) (bnotT (nb c2)) q, oN q (fun _ => q) (bnotT (nb c2)) q, oN q (fun _ => q) (bnotT (nb c2)) q, oN q (fun _ => q) (bnotT (nb c2)) q, oN q (fun _ => q) (bnotT (nb c2)) q, oN q (fun _ => q) (bnotT (nb c2)) q, oN q (fun _ => q) (bnotT (nb c2)) q, oN q (fun _ => q) (bnotT (nb c2)) q, oN q (fun _ => q) (bnotT (nb c2)) q, oN q (fun _ => q) (bnotT (nb c2)) q, oP (fun _ => pkTV q (bnotT (nb c2)) q) q, trivial⟩) _ (by exact ⟨.ptr q, .ptr q, cB q (mOrF (bnotF c1) (mOrT (bnotT (nb c2)))), trivial⟩) (by rfl)
    · exact .drawM [(30, 38, bo true), (29, 37, und), (28, 36, und), (27, 35, und), (26, 34, und), (25, 33, und), (24, 32, und), (23, 31, und), (22, 30, und), (21, 29, und), (20, 28, und), (19, 27, und), (18, 26, und), (17, 25, und), (16, 24, bo true), (15, 23, bo true), (14, 22, und), (13, 21, und), (12, 20, und), (11, 19, und), (10, 18, und), (9, 17, und), (8, 16, und), (7, 15, bo (!t2_5)), (6, 14, bo (!t2_5)), (5, 13, bo t2_5), (4, 12, i6 (a0.Of.length : Int)), (3, 11, .rows (a0.Of.map (cInt .i64))), (2, 10, .ptr 0 1 10 0 5), (1, 9, i6 a1.From), (0, 8, .ptr 1 1 7 0 0)] [] GC_A0 (by rfl) (by rfl) (by rfl) (by exact ⟨oP (fun _ => faP fa65_0 q) q, oP (fun _ => ldP q sz3 ag3 q) q, oP (fun _ => faP fa29_5 q) q, oP (fun _ => ldP q sz23 ag23 q) q, oP (fun _ => lnR (l := a0.Of) sl23 q) q, fun S hS hD hn => .oneI hS hD hn q q (callee_of q go45 q) (.pure q q (graph_in.D g2_5)) q q q, oP (fun _ => notB q) q, oP (fun _ => mvV q) q, oN q (fun _ => q) (bnotT (nb c1)) q, oN q (fun _ => q) (bnotT (nb c1)) q, oN q (fun _ => q) (bnotT (nb c1)) q, oN q (fun _ => q) (bnotT (nb c1)) q, oN q (fun _ => q) (bnotT (nb c1)) q, oN q (fun _ => q) (bnotT (nb c1)) q, oN q (fun _ => q) (bnotT (nb c1)) q, oP (fun _ => pkTV q (bnotT (nb c1)) q) q, oP (fun _ => mvV q) q, oN q (fun _ => q) q q, oN q (fun _ => q) q q, oN q (fun _ => q) q q, oN q (fun _ => q) q q, oN q (fun _ => q) q q, oN q (fun _ => q) q q, oN q (fun _ => q) q q, oN q (fun _ => q) q q, oN q (fun _ => q) q q, oN q (fun _ => q) q q, oN q (fun _ => q) q q, oN q (fun _ => q) q q, oN q (fun _ => q) q q, oP (fun _ => pkTV q q q) q, trivial⟩) _ (by exact ⟨.ptr q, .ptr q, cB q (mOrT (bnotT (nb c1))), trivial⟩) (by rfl)
  by_cases c3 : ((!t2_5) || ((!t2_13) || ((rdl a0.Of a1.From) != (rdl a0.Of a1.To)))) = true
  · rw [if_pos c3] at h
    refine .condT q c3<|.seq<|.reg0 q (.o (asV q)<|.nil0) ?_
    replace h := h.symm
    subst h
    refine .kf [(4, bo false)] q q ?_
    exact .ret q
  · rw [if_neg c3] at h
    refine .condF q (nb c3)<|.skip<|.seq ?_
    obtain ⟨t4_5, g4_5, h⟩ := h
    obtain ⟨t4_11, g4_11, h⟩ := h
    refine .reg1 (e1 := listEnv [(2, .ptr 0 1 10 0 0), (3, .ptr 1 1 7 0 0), (5, bo t4_5), (6, bo t4_11)]) (H1 := [⟨10, [(TGraph.lit a0)], 0, none⟩, ⟨7, [(TStep.lit a1)], 0, none⟩]) q ?_ ?_
    · exact .drawM [(13, 6, bo t4_11), (12, 5, bo t4_5), (11, 50, bo t4_11), (10, 49, i6 (a0.Vars.length : Int)), (9, 48, .rows (a0.Vars.map cStr)), (8, 47, .ptr 0 1 10 0 0), (7, 46, i6 a1.Y), (6, 45, .ptr 1 1 7 0 4), (5, 44, bo t4_5), (4, 43, i6 (a0.Vars.length : Int)), (3, 42, .rows (a0.Vars.map cStr)), (2, 41, .ptr 0 1 10 0 0), (1, 40, i6 a1.X), (0, 39, .ptr 1 1 7 0 3)] [] [[], [0], [], [2], [3, 2], [1, 0, 4, 3, 2], [], [6], [], [8], [9, 8], [7, 6, 10, 9, 8, 5, 1, 0, 4, 3, 2], [5, 1, 0, 4, 3, 2, 11, 7, 6, 10, 9, 8], [11, 7, 6, 10, 9, 8, 5, 1, 0, 4, 3, 2, 12]] (by rfl) (by rfl) (by rfl) (by exact ⟨oP (fun _ => faP fa65_3 q) q, oP (fun _ => ldP q sz3 ag3 q) q, oP (fun _ => faP fa29_0 q) q, oP (fun _ => ldP q sz22 ag22 q) q, oP (fun _ => lnR (l := a0.Vars) sl22 q) q, fun S hS hD hn => .oneI hS hD hn q q (callee_of q go45 q) (.pure q q (graph_in.D g4_5)) q q q, oP (fun _ => faP fa65_4 q) q, oP (fun _ => ldP q sz3 ag3 q) q, oP (fun _ => faP fa29_0 q) q, oP (fun _ => ldP q sz22 ag22 q) q, oP (fun _ => lnR (l := a0.Vars) sl22 q) q, fun S hS hD hn => .oneI hS hD hn q q (callee_of q go45 q) (.pure q q (graph_in.D g4_11)) q q q, oP (fun _ => asV q) q, oP (fun _ => asV q) q, trivial⟩) _ (by exact ⟨.ptr q, .ptr q, .free q q, .free q q, trivial⟩) (by rfl)
    refine .seq<|.room 0<|.reg0 q (.o (ldG q sz65 ag65 q)<|.op 2 q (alP (s := 7) ze65 ⟨q, by decide, q⟩ q)<|.o (stB (cs0 := GC_c0) (cs := (TStep.lit a1)) (cs1 := (TStep.lit a1)) q q sz65 q ⟨Nat.le_of_ble_eq_true q, q⟩ q)<|.nil0)<|.seq<|.reg0 q (.o (faP fa65_0 q)<|.o (stB (cs0 := (TStep.lit a1)) (cs := [i6 0]) (cs1 := [i6 0, i6 a1.To, i6 a1.Kind, i6 a1.X, i6 a1.Y, i6 a1.K, i6 a1.Site]) q q sz3 q ⟨Nat.le_of_ble_eq_true q, q⟩ q)<|.o (faP fa65_1 q)<|.o (stB (cs0 := [i6 0, i6 a1.To, i6 a1.Kind, i6 a1.X, i6 a1.Y, i6 a1.K, i6 a1.Site]) (cs := [i6 0]) (cs1 := [i6 0, i6 0, i6 a1.Kind, i6 a1.X, i6 a1.Y, i6 a1.K, i6 a1.Site]) q q sz3 q ⟨Nat.le_of_ble_eq_true q, q⟩ q)<|.o (faP fa65_2 q)<|.o (stB (cs0 := [i6 0, i6 0, i6 a1.Kind, i6 a1.X, i6 a1.Y, i6 a1.K, i6 a1.Site]) (cs := [i6 0]) (cs1 := [i6 0, i6 0, i6 0, i6 a1.X, i6 a1.Y, i6 a1.K, i6 a1.Site]) q q sz63 q ⟨Nat.le_of_ble_eq_true q, q⟩ q)<|.nil0) ?_
    refine .seq<|.seq<|.reg0 q (.o (faP fa65_2 q)<|.o (ldP q sz63 ag63 q)<|.nil0)<|.block<|.seq<|.block<|.seq ?_
    refine .consJ (fun s_ => graph_stepRight.j1 a0 a1 s_ r) (fun _ => listEnv [(2, .ptr 0 1 10 0 0), (3, .ptr 1 1 7 0 0), (7, .ptr 2 1 7 0 0)]) (fun _ => [⟨10, [(TGraph.lit a0)], 0, none⟩, ⟨7, [(TStep.lit a1)], 0, none⟩, ⟨7, [[i6 0, i6 0, i6 0, i6 a1.X, i6 a1.Y, i6 a1.K, i6 a1.Site]], 0, none⟩]) ?_ fun hJ1 => ?_
    · rintro ⟨⟩ h
      unfold graph_stepRight.j1 at h
      try dsimp only at h
      refine .seq<|.seq<|.reg0 q (.o (faP fa65_6 q)<|.o (stB (cs0 := [i6 0, i6 0, i6 0, i6 a1.X, i6 a1.Y, i6 a1.K, i6 a1.Site]) (cs := [i6 0]) (cs1 := [i6 0, i6 0, i6 0, i6 a1.X, i6 a1.Y, i6 a1.K, i6 0]) q q sz3 q ⟨Nat.le_of_ble_eq_true q, q⟩ q)<|.nil0)<|.seq ?_
      obtain ⟨t63_5, g63_5, h⟩ := h
      obtain ⟨g63_12, h⟩ := h
      obtain ⟨g63_24, h⟩ := h
      refine .reg1 (e1 := listEnv [(7, .ptr 2 1 7 0 0), (119, bo ((!t63_5) || ((!((rdl a0.Sites a1.Site).From == a1.From)) || ((rdl a0.Sites a1.Site).Back != a1.To))))]) (H1 := [⟨10, [(TGraph.lit a0)], 0, none⟩, ⟨7, [(TStep.lit a1)], 0, none⟩, ⟨7, [[i6 0, i6 0, i6 0, i6 a1.X, i6 a1.Y, i6 a1.K, i6 0]], 0, none⟩]) q ?_ ?_
      · by_cases c44 : t63_5 = true
        · by_cases c45 : (rdl a0.Sites a1.Site).From = a1.From
          · exact .drawM [(30, 119, bo ((rdl a0.Sites a1.Site).Back != a1.To)), (29, 118, bo ((rdl a0.Sites a1.Site).Back != a1.To)), (28, 117, i6 a1.To), (27, 116, .ptr 1 1 7 0 1), (26, 115, i6 ((rdl a0.Sites a1.Site).Back)), (25, 114, .cptr (TSite.lit (rdl a0.Sites a1.Site)) 3), (24, 113, .cptr (TSite.lit (rdl a0.Sites a1.Site)) 0), (23, 112, i6 a1.Site), (22, 111, .ptr 1 1 7 0 6), (21, 110, .rows (a0.Sites.map TSite.cells)), (20, 109, .ptr 0 1 10 0 7), (19, 108, bo ((rdl a0.Sites a1.Site).From != a1.From)), (18, 107, bo ((rdl a0.Sites a1.Site).From != a1.From)), (17, 106, bo ((rdl a0.Sites a1.Site).From != a1.From)), (16, 105, i6 a1.From), (15, 104, .ptr 1 1 7 0 0), (14, 103, i6 ((rdl a0.Sites a1.Site).From)), (13, 102, .cptr (TSite.lit (rdl a0.Sites a1.Site)) 2), (12, 101, .cptr (TSite.lit (rdl a0.Sites a1.Site)) 0), (11, 100, i6 a1.Site), (10, 99, .ptr 1 1 7 0 6), (9, 98, .rows (a0.Sites.map TSite.cells)), (8, 97, .ptr 0 1 10 0 7), (7, 96, bo (!t63_5)), (6, 95, bo (!t63_5)), (5, 94, bo t63_5), (4, 93, i6 (a0.Sites.length : Int)), (3, 92, .rows (a0.Sites.map TSite.cells)), (2, 91, .ptr 0 1 10 0 7), (1, 90, i6 a1.Site), (0, 89, .ptr 1 1 7 0 6)] [] GC_A1 (by rfl) (by rfl) (by rfl) (by exact ⟨oP (fun _ => faP fa65_6 q) q, oP (fun _ => ldP q sz3 ag3 q) q, oP (fun _ => faP fa29_7 q) q, oP (fun _ => ldP q sz25 ag25 q) q, oP (fun _ => lnR (l := a0.Sites) sl25 q) q, fun S hS hD hn => .oneI hS hD hn q q (callee_of q go45 q) (.pure q q (graph_in.D g63_5)) q q q, oP (fun _ => notB q) q, oP (fun _ => mvV q) q, oG q (fun _ => q) (bnotF c44) (fun _ => faP fa29_7 q) q, oG q (fun _ => q) (bnotF c44) (fun _ => ldP q sz25 ag25 q) q, oG q (fun _ => q) (bnotF c44) (fun _ => faP fa65_6 q) q, oG q (fun _ => q) (bnotF c44) (fun _ => ldP q sz3 ag3 q) q, oG q (fun _ => q) (bnotF c44) (fun _ => ixR (l := a0.Sites) (lit := TSite.lit) sl25 q q (fun _ => q) (g63_12 c44).1 (g63_12 c44).2) q, oG q (fun _ => q) (bnotF c44) (fun _ => faC fa70_2 q) q, oG q (fun _ => q) (bnotF c44) (fun _ => ldC q sz3 ag3 q) q, oG q (fun _ => q) (bnotF c44) (fun _ => faP fa65_0 q) q, oG q (fun _ => q) (bnotF c44) (fun _ => ldP q sz3 ag3 q) q, oG q (fun _ => q) (bnotF c44) (fun _ => neI q q) q, oP (fun _ => pkFV q (bnotF c44) q) q, oP (fun _ => mvV q) q, oG q (fun _ => q) (nf c45) (fun _ => faP fa29_7 q) q, oG q (fun _ => q) (nf c45) (fun _ => ldP q sz25 ag25 q) q, oG q (fun _ => q) (nf c45) (fun _ => faP fa65_6 q) q, oG q (fun _ => q) (nf c45) (fun _ => ldP q sz3 ag3 q) q, oG q (fun _ => q) (nf c45) (fun _ => ixR (l := a0.Sites) (lit := TSite.lit) sl25 q q (fun _ => q) (g63_24 c44 c45).1 (g63_24 c44 c45).2) q, oG q (fun _ => q) (nf c45) (fun _ => faC fa70_3 q) q, oG q (fun _ => q) (nf c45) (fun _ => ldC q sz3 ag3 q) q, oG q (fun _ => q) (nf c45) (fun _ => faP fa65_1 q) q, oG q (fun _ => q) (nf c45) (fun _ => ldP q sz3 ag3 q) q, oG q (fun _ => q) (nf c45) (fun _ => neI q q) q, oP (fun _ => pkFV q (nf c45) q) q, trivial⟩) _ (by exact ⟨.ptr q, cB q (mOrF (bnotF c44) (mOrF (bnotF (bt c45)) q)), trivial⟩) (by rfl)
          · exact .drawM [(30, 119, bo true), (29, 118, und), (28, 117, und), (27, 116, und), (26, 115, und), (25, 114, und), (24, 113, und), (23, 112, und), (22, 111, und), (21, 110, und), (20, 109, und), (19, 108, bo ((rdl a0.Sites a1.Site).From != a1.From)), (18, 107, bo ((rdl a0.Sites a1.Site).From != a1.From)), (17, 106, bo ((rdl a0.Sites a1.Site).From != a1.From)), (16, 105, i6 a1.From), (15, 104, .ptr 1 1 7 0 0), (14, 103, i6 ((rdl a0.Sites a1.Site).From)), (13, 102, .cptr (TSite.lit (rdl a0.Sites a1.Site)) 2), (12, 101, .cptr (TSite.lit (rdl a0.Sites a1.Site)) 0), (11, 100, i6 a1.Site), (10, 99, .ptr 1 1 7 0 6), (9, 98, .rows (a0.Sites.map TSite.cells)), (8, 97, .ptr 0 1 10 0 7), (7, 96, bo (!t63_5)), (6, 95, bo (!t63_5)), (5, 94, bo t63_5), (4, 93, i6 (a0.Sites.length : Int)), (3, 92, .rows (a0.Sites.map TSite.cells)), (2, 91, .ptr 0 1 10 0 7), (1, 90, i6 a1.Site), (0, 89, .ptr 1 1 7 0 6)] [] GC_A1 (by rfl) (by rfl) (by rfl) (by exact ⟨oP (fun _ => faP fa65_6 q) q, oP (fun _ => ldP q sz3 ag3 q) q, oP (fun _ => faP fa29_7 q) q, oP (fun _ => ldP q sz25 ag25 q) q, oP (fun _ => lnR (l := a0.Sites) sl25 q) q, fun S hS hD hn => .oneI hS hD hn q q (callee_of q go45 q) (.pure q q (graph_in.D g63_5)) q q q, oP (fun _ => notB q) q, oP (fun _ => mvV q) q, oG q (fun _ => q) (bnotF c44) (fun _ => faP fa29_7 q) q, oG q (fun _ => q) (bnotF c44) (fun _ => ldP q sz25 ag25 q) q, oG q (fun _ => q) (bnotF c44) (fun _ => faP fa65_6 q) q, oG q (fun _ => q) (bnotF c44) (fun _ => ldP q sz3 ag3 q) q, oG q (fun _ => q) (bnotF c44) (fun _ => ixR (l := a0.Sites) (lit := TSite.lit) sl25 q q (fun _ => q) (g63_12 c44).1 (g63_12 c44).2) q, oG q (fun _ => q) (bnotF c44) (fun _ => faC fa70_2 q) q, oG q (fun _ => q) (bnotF c44) (fun _ => ldC q sz3 ag3 q) q, oG q (fun _ => q) (bnotF c44) (fun _ => faP fa65_0 q) q, oG q (fun _ => q) (bnotF c44) (fun _ => ldP q sz3 ag3 q) q, oG q (fun _ => q) (bnotF c44) (fun _ => neI q q) q, oP (fun _ => pkFV q (bnotF c44) q) q, oP (fun _ => mvV q) q, oN q (fun _ => q) (nt c45) q, oN q (fun _ => q) (nt c45) q, oN q (fun _ => q) (nt c45) q, oN q (fun _ => q) (nt c45) q, oN q (fun _ => q) (nt c45) q, oN q (fun _ => q) (nt c45) q, oN q (fun _ => q) (nt c45) q, oN q (fun _ => q) (nt c45) q, oN q (fun _ => q) (nt c45) q, oN q (fun _ => q) (nt c45) q, oP (fun _ => pkTV q (nt c45) q) q, trivial⟩) _ (by exact ⟨.ptr q, cB q (mOrF (bnotF c44) (mOrT (bnotT (bn c45)))), trivial⟩) (by rfl)
        · exact .drawM [(30, 119, bo true), (29, 118, und), (28, 117, und), (27, 116, und), (26, 115, und), (25, 114, und), (24, 113, und), (23, 112, und), (22, 111, und), (21, 110, und), (20, 109, und), (19, 108, bo true), (18, 107, bo true), (17, 106, und), (16, 105, und), (15, 104, und), (14, 103, und), (13, 102, und), (12, 101, und), (11, 100, und), (10, 99, und), (9, 98, und), (8, 97, und), (7, 96, bo (!t63_5)), (6, 95, bo (!t63_5)), (5, 94, bo t63_5), (4, 93, i6 (a0.Sites.length : Int)), (3, 92, .rows (a0.Sites.map TSite.cells)), (2, 91, .ptr 0 1 10 0 7), (1, 90, i6 a1.Site), (0, 89, .ptr 1 1 7 0 6)] [] GC_A1 (by rfl) (by rfl) (by rfl) (by exact ⟨oP (fun _ => faP fa65_6 q) q, oP (fun _ => ldP q sz3 ag3 q) q, oP (fun _ => faP fa29_7 q) q, oP (fun _ => ldP q sz25 ag25 q) q, oP (fun _ => lnR (l := a0.Sites) sl25 q) q, fun S hS hD hn => .oneI hS hD hn q q (callee_of q go45 q) (.pure q q (graph_in.D g63_5)) q q q, oP (fun _ => notB q) q, oP (fun _ => mvV q) q, oN q (fun _ => q) (bnotT (nb c44)) q, oN q (fun _ => q) (bnotT (nb c44)) q, oN q (fun _ => q) (bnotT (nb c44)) q, oN q (fun _ => q) (bnotT (nb c44)) q, oN q (fun _ => q) (bnotT (nb c44)) q, oN q (fun _ => q) (bnotT (nb c44)) q, oN q (fun _ => q) (bnotT (nb c44)) q, oN q (fun _ => q) (bnotT (nb c44)) q, oN q (fun _ => q) (bnotT (nb c44)) q, oN q (fun _ => q) (bnotT (nb c44)) q, oP (fun _ => pkTV q (bnotT (nb c44)) q) q, oP (fun _ => mvV q) q, oN q (fun _ => q) q q, oN q (fun _ => q) q q, oN q (fun _ => q) q q, oN q (fun _ => q) q q, oN q (fun _ => q) q q, oN q (fun _ => q) q q, oN q (fun _ => q) q q, oN q (fun _ => q) q q, oN q (fun _ => q) q q, oN q (fun _ => q) q q, oP (fun _ => pkTV q q q) q, trivial⟩) _ (by exact ⟨.ptr q, cB q (mOrT (bnotT (nb c44))), trivial⟩) (by rfl)
      by_cases c46 : ((!t63_5) || ((!((rdl a0.Sites a1.Site).From == a1.From)) || ((rdl a0.Sites a1.Site).Back != a1.To))) = true
      · rw [if_pos c46] at h
        refine .condT q c46<|.seq<|.reg0 q (.o (asV q)<|.nil0) ?_
        replace h := h.symm
        subst h
        refine .kf [(4, bo false)] q q ?_
        exact .ret q
      · rw [if_neg c46] at h
        refine .condF q (nb c46)<|.skip<|.exit q<|.seq<|.reg0 q (.o (ldG q sz65 ag65 q)<|.o (bldS (cs := GC_c0) ze65 pl65 q q)<|.o (eqS (xs := [.int .i64 0, .int .i64 0, .int .i64 0, .int .i64 a1.X, .int .i64 a1.Y, .int .i64 a1.K, .int .i64 0]) (ys := [.int .i64 0, .int .i64 0, .int .i64 0, .int .i64 0, .int .i64 0, .int .i64 0, .int .i64 0]) ek65 q q q q q)<|.o (asV q)<|.nil0) ?_
        replace h := h.symm
        subst h
        refine .kf [(4, bo ((0 == 0) && ((0 == 0) && ((0 == 0) && ((a1.X == 0) && ((a1.Y == 0) && ((a1.K == 0) && ((0 == 0) && true))))))))] q q ?_
        exact .ret q
    · refine .block<|.seq ?_
      refine .consJ (fun s_ => graph_stepRight.j2 a1 t4_5 t4_11 s_ r) (fun _ => listEnv [(5, bo t4_5), (6, bo t4_11), (7, .ptr 0 1 7 0 0)]) (fun _ => [⟨7, [[i6 0, i6 0, i6 0, i6 a1.X, i6 a1.Y, i6 a1.K, i6 a1.Site]], 0, none⟩]) ?_ fun hJ2 => ?_
      · rintro ⟨⟩ h
        unfold graph_stepRight.j2 at h
        try dsimp only at h
        refine .seq<|.seq<|.reg0 q (.o (faP fa65_3 q)<|.o (stB (cs0 := [i6 0, i6 0, i6 0, i6 a1.X, i6 a1.Y, i6 a1.K, i6 a1.Site]) (cs := [i6 0]) (cs1 := [i6 0, i6 0, i6 0, i6 0, i6 a1.Y, i6 a1.K, i6 a1.Site]) q q sz3 q ⟨Nat.le_of_ble_eq_true q, q⟩ q)<|.o (faP fa65_4 q)<|.o (stB (cs0 := [i6 0, i6 0, i6 0, i6 0, i6 a1.Y, i6 a1.K, i6 a1.Site]) (cs := [i6 0]) (cs1 := [i6 0, i6 0, i6 0, i6 0, i6 0, i6 a1.K, i6 a1.Site]) q q sz3 q ⟨Nat.le_of_ble_eq_true q, q⟩ q)<|.nil0) ?_
        refine .seq ?_
        refine .reg0 (e1 := listEnv [(4, bo (t4_5 && (t4_11 && ((0 == 0) && ((0 == 0) && ((0 == 0) && ((0 == 0) && ((0 == 0) && ((a1.K == 0) && ((a1.Site == 0) && true))))))))))]) (H1 := [⟨7, [[i6 0, i6 0, i6 0, i6 0, i6 0, i6 a1.K, i6 a1.Site]], 0, none⟩]) q ?_ ?_
        · refine .m q<|.m q<|?_
          by_cases c66 : t4_5 = true
          · refine .g q c66 (mvV q)<|.o (pkTV q c66 q)<|.m q<|?_
            by_cases c67 : t4_11 = true
            · exact (.g q c67 (ldG q sz65 ag65 q)<|.g q c67 (bldS (cs := GC_c0) ze65 pl65 q q)<|.g q c67 (eqS (xs := [.int .i64 0, .int .i64 0, .int .i64 0, .int .i64 0, .int .i64 0, .int .i64 a1.K, .int .i64 a1.Site]) (ys := [.int .i64 0, .int .i64 0, .int .i64 0, .int .i64 0, .int .i64 0, .int .i64 0, .int .i64 0]) ek65 q q q q q)<|.o (pkTV q c67 q)<|.a q<|.nilL _ ⟨cB q (mAndT c66 (mAndT c67 q)), trivial⟩)
            · exact (.n q (nb c67)<|.n q (nb c67)<|.n q (nb c67)<|.o (pkFV q (nb c67) q)<|.a q<|.nilL _ ⟨cB q (mAndT c66 (mAndF (nb c67))), trivial⟩)
          · exact (.n q (nb c66)<|.o (pkFV q (nb c66) q)<|.m q<|.n q q<|.n q q<|.n q q<|.o (pkFV q q q)<|.a q<|.nilL _ ⟨cB q (mAndF (nb c66)), trivial⟩)
        replace h := h.symm
        subst h
        refine .kf [(4, bo (t4_5 && (t4_11 && ((0 == 0) && ((0 == 0) && ((0 == 0) && ((0 == 0) && ((0 == 0) && ((a1.K == 0) && ((a1.Site == 0) && true))))))))))] q q ?_
        exact .ret q
      · refine .block<|.seq ?_
        refine .consJ (fun s_ => graph_stepRight.j3 a1 t4_5 s_ r) (fun x11 => listEnv [(5, bo t4_5), (7, .ptr 0 1 7 0 0)]) (fun x11 => [⟨7, [[i6 0, i6 0, i6 0, i6 a1.X, i6 a1.Y, i6 x11, i6 a1.Site]], 0, none⟩]) ?_ fun hJ3 => ?_
        · rintro x11 h
          unfold graph_stepRight.j3 at h
          try dsimp only at h
          refine .seq<|.seq<|.reg0 q (.o (faP fa65_3 q)<|.o (stB (cs0 := [i6 0, i6 0, i6 0, i6 a1.X, i6 a1.Y, i6 x11, i6 a1.Site]) (cs := [i6 0]) (cs1 := [i6 0, i6 0, i6 0, i6 0, i6 a1.Y, i6 x11, i6 a1.Site]) q q sz3 q ⟨Nat.le_of_ble_eq_true q, q⟩ q)<|.nil0)<|.seq ?_
          refine .reg0 (e1 := listEnv [(4, bo (t4_5 && ((0 == 0) && ((0 == 0) && ((0 == 0) && ((0 == 0) && ((a1.Y == 0) && ((x11 == 0) && ((a1.Site == 0) && true)))))))))]) (H1 := [⟨7, [[i6 0, i6 0, i6 0, i6 0, i6 a1.Y, i6 x11, i6 a1.Site]], 0, none⟩]) q ?_ ?_
          · refine .m q<|.m q<|?_
            by_cases c77 : t4_5 = true
            · exact (.g q c77 (ldG q sz65 ag65 q)<|.g q c77 (bldS (cs := GC_c0) ze65 pl65 q q)<|.g q c77 (eqS (xs := [.int .i64 0, .int .i64 0, .int .i64 0, .int .i64 0, .int .i64 a1.Y, .int .i64 x11, .int .i64 a1.Site]) (ys := [.int .i64 0, .int .i64 0, .int .i64 0, .int .i64 0, .int .i64 0, .int .i64 0, .int .i64 0]) ek65 q q q q q)<|.o (pkTV q c77 q)<|.a q<|.nilL _ ⟨cB q (mAndT c77 q), trivial⟩)
            · exact (.n q (nb c77)<|.n q (nb c77)<|.n q (nb c77)<|.o (pkFV q (nb c77) q)<|.a q<|.nilL _ ⟨cB q (mAndF (nb c77)), trivial⟩)
          replace h := h.symm
          subst h
          refine .kf [(4, bo (t4_5 && ((0 == 0) && ((0 == 0) && ((0 == 0) && ((0 == 0) && ((a1.Y == 0) && ((x11 == 0) && ((a1.Site == 0) && true)))))))))] q q ?_
          exact .ret q
        · refine .block<|.seq<|.block<|.seq<|.block<|.seq<|.seq<|.seq<|.reg0 q (.o (eqI q q)<|.o (asV q)<|.nil0) ?_
          by_cases c78 : a1.Kind = 1
          · rw [if_pos c78] at h
            refine .condT q (bt c78)<|.exit q<|.exit q<|.seq<|.reg0 q (.o (ldG q sz65 ag65 q)<|.o (bldS (cs := GC_c0) ze65 pl65 q q)<|.o (eqS (xs := [.int .i64 0, .int .i64 0, .int .i64 0, .int .i64 a1.X, .int .i64 a1.Y, .int .i64 a1.K, .int .i64 a1.Site]) (ys := [.int .i64 0, .int .i64 0, .int .i64 0, .int .i64 0, .int .i64 0, .int .i64 0, .int .i64 0]) ek65 q q q q q)<|.o (asV q)<|.nil0) ?_
            replace h := h.symm
            subst h
            refine .kf [(4, bo ((0 == 0) && ((0 == 0) && ((0 == 0) && ((a1.X == 0) && ((a1.Y == 0) && ((a1.K == 0) && ((a1.Site == 0) && true))))))))] q q ?_
            exact .ret q
          · rw [if_neg c78] at h
            refine .condF q (bn c78)<|.skip<|.seq<|.seq<|.reg0 q (.o (eqI q q)<|.o (asV q)<|.nil0) ?_
            by_cases c79 : a1.Kind = 2
            · rw [if_pos c79] at h
              refine .condT q (bt c79)<|.exit q<|.reg0 q (.o (faP fa65_5 q)<|.o (stB (cs0 := [i6 0, i6 0, i6 0, i6 a1.X, i6 a1.Y, i6 a1.K, i6 a1.Site]) (cs := [i6 0]) (cs1 := [i6 0, i6 0, i6 0, i6 a1.X, i6 a1.Y, i6 0, i6 a1.Site]) q q sz2 q ⟨Nat.le_of_ble_eq_true q, q⟩ q)<|.nil0)<|.inBlock<|.keepL [2] [(5, bo t4_5), (7, .ptr 0 1 7 0 0)] [⟨7, [[i6 0, i6 0, i6 0, i6 a1.X, i6 a1.Y, i6 0, i6 a1.Site]], 0, none⟩] (by decide) (by decide) ⟨.free q q, .ptr q, trivial⟩ ⟨⟨_, q, bcBox (all2_free q)⟩, trivial⟩ ?_
              exact hJ3 _ h
            · rw [if_neg c79] at h
              refine .condF q (bn c79)<|.skip<|.seq<|.seq<|.seq<|.reg0 q (.o (eqI q q)<|.o (asV q)<|.nil0) ?_
              refine .consJ (fun s_ => graph_stepRight.j4 a0 a1 t4_5 t4_11 s_ r) (fun x12 => listEnv [(2, .ptr 0 1 10 0 0), (3, .ptr 1 1 7 0 0), (5, bo t4_5), (6, bo t4_11), (7, .ptr 2 1 7 0 0), (56, i6 a1.Kind), (61, bo x12)]) (fun x12 => [⟨10, [(TGraph.lit a0)], 0, none⟩, ⟨7, [(TStep.lit a1)], 0, none⟩, ⟨7, [[i6 0, i6 0, i6 0, i6 a1.X, i6 a1.Y, i6 a1.K, i6 a1.Site]], 0, none⟩]) ?_ fun hJ4 => ?_
              · rintro x12 h
                unfold graph_stepRight.j4 at h
                try dsimp only at h
                by_cases c82 : x12 = true
                · rw [if_pos c82] at h
                  refine .condT q c82<|.exit q<|.keepL [2] [(5, bo t4_5), (7, .ptr 0 1 7 0 0)] [⟨7, [[i6 0, i6 0, i6 0, i6 a1.X, i6 a1.Y, i6 a1.K, i6 a1.Site]], 0, none⟩] (by decide) (by decide) ⟨.free q q, .ptr q, trivial⟩ ⟨⟨_, q, bcBox (all2_free q)⟩, trivial⟩ ?_
                  exact hJ3 _ h
                · rw [if_neg c82] at h
                  refine .condF q (nb c82)<|.skip<|.seq<|.seq<|.reg0 q (.o (eqI q q)<|.o (asV q)<|.nil0) ?_
                  by_cases c83 : a1.Kind = 3
                  · rw [if_pos c83] at h
                    refine .condT q (bt c83)<|.exit q<|.keepL [2] [(5, bo t4_5), (6, bo t4_11), (7, .ptr 0 1 7 0 0)] [⟨7, [[i6 0, i6 0, i6 0, i6 a1.X, i6 a1.Y, i6 a1.K, i6 a1.Site]], 0, none⟩] (by decide) (by decide) ⟨.free q q, .free q q, .ptr q, trivial⟩ ⟨⟨_, q, bcBox (all2_free q)⟩, trivial⟩ ?_
                    exact hJ2 _ h
                  · rw [if_neg c83] at h
                    refine .condF q (bn c83)<|.skip<|.seq<|.reg0 q (.o (eqI q q)<|.o (asV q)<|.nil0) ?_
                    by_cases c84 : a1.Kind = 8
                    · rw [if_pos c84] at h
                      refine .condT q (bt c84)<|.exit q<|.keepL [0, 1, 2] [(2, .ptr 0 1 10 0 0), (3, .ptr 1 1 7 0 0), (7, .ptr 2 1 7 0 0)] [⟨10, [(TGraph.lit a0)], 0, none⟩, ⟨7, [(TStep.lit a1)], 0, none⟩, ⟨7, [[i6 0, i6 0, i6 0, i6 a1.X, i6 a1.Y, i6 a1.K, i6 a1.Site]], 0, none⟩] (by decide) (by decide) ⟨.ptr q, .ptr q, .ptr q, trivial⟩ ⟨⟨_, q, bcBox (all2_free q)⟩, ⟨_, q, bcBox (all2_free q)⟩, ⟨_, q, bcBox (all2_free q)⟩, trivial⟩ ?_
                      exact hJ1 _ h
                    · rw [if_neg c84] at h
                      refine .condF q (bn c84)<|.skip<|.exit q<|.seq<|.seq<|.reg0 q (.o (asV q)<|.nil0) ?_
                      replace h := h.symm
                      subst h
                      refine .kf [(4, bo false)] q q ?_
                      exact .ret q
              · by_cases c85 : a1.Kind = 4
                · rw [if_pos c85] at h
                  refine .condT q (bt c85)<|.skip<|.keepL [0, 1, 2] [(2, .ptr 0 1 10 0 0), (3, .ptr 1 1 7 0 0), (5, bo t4_5), (6, bo t4_11), (7, .ptr 2 1 7 0 0), (56, i6 a1.Kind), (61, bo (a1.Kind == 4))] [⟨10, [(TGraph.lit a0)], 0, none⟩, ⟨7, [(TStep.lit a1)], 0, none⟩, ⟨7, [[i6 0, i6 0, i6 0, i6 a1.X, i6 a1.Y, i6 a1.K, i6 a1.Site]], 0, none⟩] (by decide) (by decide) ⟨.ptr q, .ptr q, .free q q, .free q q, .ptr q, .free q q, .free q q, trivial⟩ ⟨⟨_, q, bcBox (all2_free q)⟩, ⟨_, q, bcBox (all2_free q)⟩, ⟨_, q, bcBox (all2_free q)⟩, trivial⟩ ?_
                  exact hJ4 _ h
                · rw [if_neg c85] at h
                  refine .condF q (bn c85)<|.seq<|.reg0 q (.o (eqI q q)<|.o (asV q)<|.nil0) ?_
                  by_cases c86 : a1.Kind = 5
                  · rw [if_pos c86] at h
                    refine .condT q (bt c86)<|.skip<|.keepL [0, 1, 2] [(2, .ptr 0 1 10 0 0), (3, .ptr 1 1 7 0 0), (5, bo t4_5), (6, bo t4_11), (7, .ptr 2 1 7 0 0), (56, i6 a1.Kind), (61, bo (a1.Kind == 5))] [⟨10, [(TGraph.lit a0)], 0, none⟩, ⟨7, [(TStep.lit a1)], 0, none⟩, ⟨7, [[i6 0, i6 0, i6 0, i6 a1.X, i6 a1.Y, i6 a1.K, i6 a1.Site]], 0, none⟩] (by decide) (by decide) ⟨.ptr q, .ptr q, .free q q, .free q q, .ptr q, .free q q, .free q q, trivial⟩ ⟨⟨_, q, bcBox (all2_free q)⟩, ⟨_, q, bcBox (all2_free q)⟩, ⟨_, q, bcBox (all2_free q)⟩, trivial⟩ ?_
                    exact hJ4 _ h
                  · rw [if_neg c86] at h
                    refine .condF q (bn c86)<|.reg0 q (.o (eqI q q)<|.a q<|.nil0)<|.keepL [0, 1, 2] [(2, .ptr 0 1 10 0 0), (3, .ptr 1 1 7 0 0), (5, bo t4_5), (6, bo t4_11), (7, .ptr 2 1 7 0 0), (56, i6 a1.Kind), (61, bo (a1.Kind == 6))] [⟨10, [(TGraph.lit a0)], 0, none⟩, ⟨7, [(TStep.lit a1)], 0, none⟩, ⟨7, [[i6 0, i6 0, i6 0, i6 a1.X, i6 a1.Y, i6 a1.K, i6 a1.Site]], 0, none⟩] (by decide) (by decide) ⟨.ptr q, .ptr q, .free q q, .free q q, .ptr q, .free q q, .free q q, trivial⟩ ⟨⟨_, q, bcBox (all2_free q)⟩, ⟨_, q, bcBox (all2_free q)⟩, ⟨_, q, bcBox (all2_free q)⟩, trivial⟩ ?_
                    exact hJ4 _ h
def slices_IndexFunc_Point.b1 (a0 : List TPoint) (a1 : TPoint → Bool → Prop) : Int → Rnd Int Unit Int → Prop := fun x1 z1 => if x1 < (a0.length : Int) then (((InR x1 a0.length)) ∧ ∃ t15_5 : Bool, (a1 (rdl a0 x1) t15_5) ∧ if t15_5 = true then (z1 = .ret x1) else (z1 = .next (IntKind.i64.wrap (x1 + 1)))) else (z1 = .exit ())
def slices_IndexFunc_Point.f (a0 : List TPoint) (a1 : TPoint → Bool → Prop) (r : Int) : Prop :=
  ∃ o1 : Fin Unit Int, Loop (slices_IndexFunc_Point.b1 a0 a1) 0 o1 ∧ o1.on (fun _ => r = (-1)) (fun r_ => r = r_)
theorem slices_IndexFunc_Point.D {a0 : List TPoint} {a1 : TPoint → Bool → Prop} {r : Int} {c1_ : FuncId} {k1_ : List PV} (hg1_ : isGo Tryz.prog c1_ = true) (hk1_ : PV.free deep (.clo c1_ k1_) = true) (hka1_ : k1_.all (PV.free deep) = true) (hq1_ : ∀ x0_ y_, a1 x0_ y_ → D Tryz.prog X (.callH c1_ ([.agg (TPoint.lit x0_)] ++ k1_) [] (.val (.bool y_)) [])) (h : slices_IndexFunc_Point.f a0 a1 r) : D Tryz.prog X (.callH 71 [.rows (a0.map TPoint.cells), .clo c1_ k1_] [] (.val (.int .i64 r)) []) := by
  unfold slices_IndexFunc_Point.f at h
  refine .enter 19 0 fn71 q q q<|.seq<|.reg0 q (.o (asV q)<|.nil0)<|.seq<|.seq<|.reg0 q (.o (mvR q)<|.o (lnR (l := a0) sl26 q)<|.o (mvV q)<|.nil0)<|.block<|.keepL [] [(0, .rows (a0.map TPoint.cells)), (1, .clo c1_ k1_), (7, i6 (a0.length : Int)), (8, i6 0)] [] (by decide) (by decide) ⟨.free q q, .free q hk1_, .free q q, .free q q, trivial⟩ trivial ?_
  obtain ⟨o1, hL1, h⟩ := h
  refine .loopB (slices_IndexFunc_Point.b1 a0 a1) (fun x1 => listEnv [(0, .rows (a0.map TPoint.cells)), (1, .clo c1_ k1_), (7, i6 (a0.length : Int)), (8, i6 x1)]) (fun x1 => []) (fun _ => listEnv []) (fun _ => []) hL1 (fun r_ => r = r_) ?_ ?_ ?_
  · rintro ⟨⟩ rfl
    try dsimp only [Fin.on] at h
    refine .seq<|.reg0 q (.o (asV q)<|.nil0) ?_
    replace h := h.symm
    subst h
    refine .kf [(4, i6 (-1))] q q ?_
    exact .ret q
  · rintro r_ rfl
    exact h
  · rintro x1 z1 h hn1 hx1 hr1
    dsimp only [slices_IndexFunc_Point.b1] at h
    refine .seq<|.reg0 q (.o (ltI q q)<|.nil0)<|.seq ?_
    by_cases c5 : x1 < (a0.length : Int)
    · rw [if_pos c5] at h
      refine .condT q (dt c5)<|.skip<|.seq<|.block<|.seq<|.reg0 q (.o (mvV q)<|.o (asV q)<|.nil0)<|.seq ?_
      obtain ⟨g15_3, h⟩ := h
      obtain ⟨t15_5, g15_5, h⟩ := h
      refine .reg0 q (.o (mvF q)<|.o (mvR q)<|.m q<|.o (ixR (l := a0) (lit := TPoint.lit) sl26 q q (fun _ => q) g15_3.1 g15_3.2)<|.o (ldCG q sz95 ag95 q)<|.callI q (callee_of q hg1_ q) (.pure (allCons q hka1_) q (hq1_ _ _ g15_5))<|.nil0) ?_
      by_cases c6 : t15_5 = true
      · rw [if_pos c6] at h
        refine .condT q c6<|.seq<|.reg0 q (.o (mvV q)<|.o (asV q)<|.nil0) ?_
        have q3 := hr1 _ h
        replace q3 := q3.symm
        subst q3
        refine .kf [(4, i6 x1)] q q ?_
        exact .ret q
      · rw [if_neg c6] at h
        refine .condF q (nb c6)<|.skip<|.inBlock<|.reg0 q (.o (addI q q)<|.o (mvV q)<|.nil0)<|.k [(0, .rows (a0.map TPoint.cells)), (1, .clo c1_ k1_), (7, i6 (a0.length : Int)), (8, i6 (IntKind.i64.wrap (x1 + 1)))] ⟨.free q q, .free q hk1_, .free q q, .free q q, trivial⟩ ?_
        exact hn1 _ h
    · rw [if_neg c5] at h
      refine .condF q (df c5)<|.exit q<|.keepL [] [] [] (by decide) (by decide) trivial trivial ?_
      exact hx1 _ h
def slices_ContainsFunc_Point.f (a0 : List TPoint) (a1 : TPoint → Bool → Prop) (r : Bool) : Prop :=
  ∃ t2_2 : Int, (slices_IndexFunc_Point.f a0 a1 t2_2) ∧ r = (decide (t2_2 ≥ 0))
theorem slices_ContainsFunc_Point.D {a0 : List TPoint} {a1 : TPoint → Bool → Prop} {r : Bool} {c1_ : FuncId} {k1_ : List PV} (hg1_ : isGo Tryz.prog c1_ = true) (hk1_ : PV.free deep (.clo c1_ k1_) = true) (hka1_ : k1_.all (PV.free deep) = true) (hq1_ : ∀ x0_ y_, a1 x0_ y_ → D Tryz.prog X (.callH c1_ ([.agg (TPoint.lit x0_)] ++ k1_) [] (.val (.bool y_)) [])) (h : slices_ContainsFunc_Point.f a0 a1 r) : D Tryz.prog X (.callH 43 [.rows (a0.map TPoint.cells), .clo c1_ k1_] [] (.val (.bool r)) []) := by
  unfold slices_ContainsFunc_Point.f at h
  refine .enter 9 0 fn43 q q q<|.seq<|.reg0 q (.o (asV q)<|.nil0)<|.seq ?_
  obtain ⟨t2_2, g2_2, h⟩ := h
  refine .reg0 q (.o (mvR q)<|.o (mvF q)<|.callI q (callee_of q go71 q) (.pure (allCons q (allCons hk1_ q)) q (slices_IndexFunc_Point.D hg1_ hk1_ hka1_ hq1_ g2_2))<|.o (geI q q)<|.a q<|.nil0) ?_
  replace h := h.symm
  subst h
  refine .kf [(4, bo (decide (t2_2 ≥ 0)))] q q ?_
  exact .ret q
def graph_Check_1.f (a0 : TPoint) (f0 : TGraph) (r : Bool) : Prop :=
  ∃ t2_5 : Bool, (graph_in.f a0.Node (f0.Of.length : Int) t2_5) ∧ r = (!t2_5)
theorem graph_Check_1.D {a0 f0 r} (h : graph_Check_1.f a0 f0 r) : D Tryz.prog X (.callH 44 [.agg (TPoint.lit a0), .cptr (TGraph.lit f0) 0] [] (.val (.bool r)) []) := by
  unfold graph_Check_1.f at h
  refine .enter 11 0 fn44 q q q<|.seq<|.room 0<|.reg0 q (.o (bxP (s := 2) (cs := (TPoint.lit a0)) q ⟨q, by decide, q⟩ q)<|.o (asV q)<|.nil0)<|.seq ?_
  obtain ⟨t2_5, g2_5, h⟩ := h
  refine .reg0 q (.o (faP fa95_1 q)<|.o (ldP q sz3 ag3 q)<|.o (faC fa29_5 q)<|.o (ldC q sz23 ag23 q)<|.o (lnR (l := f0.Of) sl23 q)<|.c q go45 q q q (graph_in.D g2_5)<|.o (notB q)<|.a q<|.nil0) ?_
  replace h := h.symm
  subst h
  refine .kf [(3, bo (!t2_5))] q q ?_
  exact .ret q
end Go.RM.Tryz
