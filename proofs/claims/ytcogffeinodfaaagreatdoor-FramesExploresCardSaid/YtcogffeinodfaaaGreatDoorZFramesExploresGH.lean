/- GH, for the statement FramesExplores: what it needs, no more. -/
import Derived.Test.YtcogffeinodfaaaGreatDoorZFramesExploresGG
set_option linter.unusedVariables false
set_option maxRecDepth 8000
set_option maxHeartbeats 4000000
namespace Go.RM.Tryz
open Go.RM Go.Proofs
def r21_Check.j1 (x4 : Int) : Int → (Rnd ((Int × Int)) Int Int) → Prop := fun x9 z1 => z1 = .next (x9, (IntKind.i64.wrap (x4 + 1)))
def r21_Check.b1 (a0 : TGraph) : (Int × Int) → Rnd ((Int × Int)) Int Int → Prop := fun (x3, x4) z1 => if x4 < (a0.Steps.length : Int) then (((InR x4 a0.Steps.length)) ∧ ∃ t55_6 : Bool, (r21_step.f a0 (rdl a0.Steps x4) t55_6) ∧ if t55_6 = true then (((InR x4 a0.Steps.length)) ∧ if (rdl a0.Steps x4).Kind = 8 then (((InR x4 a0.Steps.length)) ∧ if (rdl a0.Steps x4).Site = x3 then (r21_Check.j1 x4 (IntKind.i64.wrap (x3 + 1)) z1) else (z1 = .ret 213)) else (r21_Check.j1 x4 x3 z1)) else (z1 = .ret 213)) else (z1 = .exit x3)
def r21_Check.b2 (a0 : TGraph) : Int → Rnd Int Unit Int → Prop := fun x10 z2 => if x10 < (a0.Points.length : Int) then (((InR x10 a0.Points.length)) ∧ ∃ t76_9 : Bool, (r21_in.f ((rdl a0.Points x10).Node) (a0.Of.length : Int) t76_9) ∧ if t76_9 = true then (z2 = .next (IntKind.i64.wrap (x10 + 1))) else (z2 = .ret 213)) else (z2 = .exit ())
def r21_Check.b3 (a0 : TGraph) : Int → Rnd Int Unit Int → Prop := fun x11 z3 => if x11 < (a0.Sinks.length : Int) then (((InR x11 a0.Sinks.length)) ∧ ∃ t89_9 : Bool, (r21_in.f ((rdl a0.Sinks x11).Node) (a0.Of.length : Int) t89_9) ∧ ((t89_9 = true) → (InR x11 a0.Sinks.length)) ∧ ∃ t89_21 : Bool, ((t89_9 = true) → r21_in.f ((rdl a0.Sinks x11).X) (a0.Vars.length : Int) t89_21) ∧ if ((!t89_9) || (!t89_21)) = true then (z3 = .ret 213) else (z3 = .next (IntKind.i64.wrap (x11 + 1)))) else (z3 = .exit ())
def r21_Check.f (a0 : TGraph) (r : Int) : Prop :=
  ∃ t2_1 : Bool, (r21_heads.f a0 t2_1) ∧ if t2_1 = true then (∃ o1 : Fin Int Int, Loop (r21_Check.b1 a0) (0, 0) o1 ∧ o1.on (fun x7 => if x7 = (a0.Sites.length : Int) then (∃ o2 : Fin Unit Int, Loop (r21_Check.b2 a0) 0 o2 ∧ o2.on (fun _ => ∃ o3 : Fin Unit Int, Loop (r21_Check.b3 a0) 0 o3 ∧ o3.on (fun _ => r = 0) (fun r_ => r = r_)) (fun r_ => r = r_)) else (r = 213)) (fun r_ => r = r_)) else (r = 213)
abbrev GH_A0 : List (List Nat) := [[], [0], [], [1, 0, 2], [3, 1, 0, 2], [4, 3, 1, 0, 2], [], [6], [7, 6], [5, 4, 3, 1, 0, 2, 8, 7, 6], [9, 5, 4, 3, 1, 0, 2, 8, 7, 6], [10, 9, 5, 4, 3, 1, 0, 2, 8, 7, 6], [11, 10, 9, 5, 4, 3, 1, 0, 2, 8, 7, 6], [12, 11, 10, 9, 5, 4, 3, 1, 0, 2, 8, 7, 6], [11, 10, 9, 5, 4, 3, 1, 0, 2, 8, 7, 6], [13, 12, 11, 10, 9, 5, 4, 3, 1, 0, 2, 8, 7, 6, 14], [15, 13, 12, 11, 10, 9, 5, 4, 3, 1, 0, 2, 8, 7, 6, 14], [16, 15, 13, 12, 11, 10, 9, 5, 4, 3, 1, 0, 2, 8, 7, 6, 14], [11, 10, 9, 5, 4, 3, 1, 0, 2, 8, 7, 6], [18, 11, 10, 9, 5, 4, 3, 1, 0, 2, 8, 7, 6], [19, 18, 11, 10, 9, 5, 4, 3, 1, 0, 2, 8, 7, 6], [17, 16, 15, 13, 12, 11, 10, 9, 5, 4, 3, 1, 0, 2, 8, 7, 6, 14, 20, 19, 18], [21, 17, 16, 15, 13, 12, 11, 10, 9, 5, 4, 3, 1, 0, 2, 8, 7, 6, 14, 20, 19, 18], [11, 10, 9, 5, 4, 3, 1, 0, 2, 8, 7, 6, 22, 21, 17, 16, 15, 13, 12, 14, 20, 19, 18]]
theorem r21_Check.D {a0 r} (h : r21_Check.f a0 r) : D Tryz.prog X (.callH 26 [.agg (TGraph.lit a0)] [] (.val (.int .i64 r)) []) := by
  unfold r21_Check.f at h
  refine .enter 96 0 fn26 q q q<|.seq<|.room 0<|.reg0 q (.o (bxP (s := 10) (cs := (TGraph.lit a0)) q ⟨q, by decide, q⟩ q)<|.o (asV q)<|.nil0)<|.seq<|.seq ?_
  obtain ⟨t2_1, g2_1, h⟩ := h
  refine .reg0 q (.o (ldG q sz29 ag29 q)<|.c q go48 q q q (r21_heads.D g2_1)<|.o (notB q)<|.nil0) ?_
  by_cases c1 : t2_1 = true
  · rw [if_pos c1] at h
    refine .condF q (bnotF c1)<|.skip<|.seq<|.reg0 q (.o (asV q)<|.nil0)<|.seq<|.seq<|.reg0 q (.o (asV q)<|.nil0)<|.block<|.keepL [0] [(1, .ptr 0 1 10 0 0), (3, i6 0), (4, i6 0)] [⟨10, [(TGraph.lit a0)], 0, none⟩] (by decide) (by decide) ⟨.ptr q, .free q q, .free q q, trivial⟩ ⟨⟨_, q, bcBox (all2_free q)⟩, trivial⟩ ?_
    obtain ⟨o1, hL1, h⟩ := h
    refine .loopB (r21_Check.b1 a0) (fun (x3, x4) => listEnv [(1, .ptr 0 1 10 0 0), (3, i6 x3), (4, i6 x4)]) (fun (x3, x4) => [⟨10, [(TGraph.lit a0)], 0, none⟩]) (fun x7 => listEnv [(1, .ptr 0 1 10 0 0), (3, i6 x7)]) (fun x7 => [⟨10, [(TGraph.lit a0)], 0, none⟩]) hL1 (fun r_ => r = r_) ?_ ?_ ?_
    · rintro x7 rfl
      try dsimp only [Fin.on] at h
      refine .seq<|.seq<|.reg0 q (.o (mvV q)<|.o (faP fa29_7 q)<|.o (ldP q sz25 ag25 q)<|.o (lnR (l := a0.Sites) sl25 q)<|.o (neI q q)<|.nil0) ?_
      by_cases c35 : x7 = (a0.Sites.length : Int)
      · rw [if_pos c35] at h
        refine .condF q (nf c35)<|.skip<|.seq<|.seq<|.reg0 q (.o (asV q)<|.nil0)<|.block<|.keepL [0] [(1, .ptr 0 1 10 0 0), (5, i6 0)] [⟨10, [(TGraph.lit a0)], 0, none⟩] (by decide) (by decide) ⟨.ptr q, .free q q, trivial⟩ ⟨⟨_, q, bcBox (all2_free q)⟩, trivial⟩ ?_
        obtain ⟨o2, hL2, h⟩ := h
        refine .loopB (r21_Check.b2 a0) (fun x10 => listEnv [(1, .ptr 0 1 10 0 0), (5, i6 x10)]) (fun x10 => [⟨10, [(TGraph.lit a0)], 0, none⟩]) (fun _ => listEnv [(1, .ptr 0 1 10 0 0)]) (fun _ => [⟨10, [(TGraph.lit a0)], 0, none⟩]) hL2 (fun r_ => r = r_) ?_ ?_ ?_
        · rintro ⟨⟩ rfl
          try dsimp only [Fin.on] at h
          refine .seq<|.seq<|.reg0 q (.o (asV q)<|.nil0)<|.block<|.keepL [0] [(1, .ptr 0 1 10 0 0), (6, i6 0)] [⟨10, [(TGraph.lit a0)], 0, none⟩] (by decide) (by decide) ⟨.ptr q, .free q q, trivial⟩ ⟨⟨_, q, bcBox (all2_free q)⟩, trivial⟩ ?_
          obtain ⟨o3, hL3, h⟩ := h
          refine .loopB (r21_Check.b3 a0) (fun x11 => listEnv [(1, .ptr 0 1 10 0 0), (6, i6 x11)]) (fun x11 => [⟨10, [(TGraph.lit a0)], 0, none⟩]) (fun _ => listEnv []) (fun _ => []) hL3 (fun r_ => r = r_) ?_ ?_ ?_
          · rintro ⟨⟩ rfl
            try dsimp only [Fin.on] at h
            refine .seq<|.reg0 q (.o (asV q)<|.nil0) ?_
            replace h := h.symm
            subst h
            refine .kf [(2, i6 0)] q q ?_
            exact .ret q
          · rintro r_ rfl
            exact h
          · rintro x11 z3 h hn3 hx3 hr3
            dsimp only [r21_Check.b3] at h
            refine .seq<|.seq<|.reg0 q (.o (mvV q)<|.o (faP fa29_9 q)<|.o (ldP q sz27 ag27 q)<|.o (lnR (l := a0.Sinks) sl27 q)<|.o (ltI q q)<|.nil0) ?_
            by_cases c48 : x11 < (a0.Sinks.length : Int)
            · rw [if_pos c48] at h
              refine .condT q (dt c48)<|.skip<|.seq<|.block<|.seq ?_
              obtain ⟨g89_3, h⟩ := h
              obtain ⟨t89_9, g89_9, h⟩ := h
              obtain ⟨g89_15, h⟩ := h
              obtain ⟨t89_21, g89_21, h⟩ := h
              refine .reg1 (e1 := listEnv [(1, .ptr 0 1 10 0 0), (6, i6 x11), (95, bo ((!t89_9) || (!t89_21)))]) (H1 := [⟨10, [(TGraph.lit a0)], 0, none⟩]) q ?_ ?_
              · by_cases c49 : t89_9 = true
                · exact .drawM [(23, 95, bo (!t89_21)), (22, 94, bo (!t89_21)), (21, 93, bo t89_21), (20, 92, i6 (a0.Vars.length : Int)), (19, 91, .rows (a0.Vars.map cStr)), (18, 90, .ptr 0 1 10 0 0), (17, 89, i6 ((rdl a0.Sinks x11).X)), (16, 88, .cptr (TSink.lit (rdl a0.Sinks x11)) 0), (15, 87, .cptr (TSink.lit (rdl a0.Sinks x11)) 0), (14, 86, i6 x11), (13, 85, .rows (a0.Sinks.map TSink.cells)), (12, 84, .ptr 0 1 10 0 9), (11, 83, bo (!t89_9)), (10, 82, bo (!t89_9)), (9, 81, bo t89_9), (8, 80, i6 (a0.Of.length : Int)), (7, 79, .rows (a0.Of.map (cInt .i64))), (6, 78, .ptr 0 1 10 0 5), (5, 77, i6 ((rdl a0.Sinks x11).Node)), (4, 76, .cptr (TSink.lit (rdl a0.Sinks x11)) 1), (3, 75, .cptr (TSink.lit (rdl a0.Sinks x11)) 0), (2, 74, i6 x11), (1, 73, .rows (a0.Sinks.map TSink.cells)), (0, 72, .ptr 0 1 10 0 9)] [] GH_A0 (by rfl) (by rfl) (by rfl) (by exact ⟨oP (fun _ => faP fa29_9 q) q, oP (fun _ => ldP q sz27 ag27 q) q, oP (fun _ => mvV q) q, oP (fun _ => ixR (l := a0.Sinks) (lit := TSink.lit) sl27 q q (fun _ => q) g89_3.1 g89_3.2) q, oP (fun _ => faC fa67_1 q) q, oP (fun _ => ldC q sz3 ag3 q) q, oP (fun _ => faP fa29_5 q) q, oP (fun _ => ldP q sz23 ag23 q) q, oP (fun _ => lnR (l := a0.Of) sl23 q) q, fun S hS hD hn => .oneI hS hD hn q q (callee_of q go50 q) (.pure q q (r21_in.D g89_9)) q q q, oP (fun _ => notB q) q, oP (fun _ => mvV q) q, oG q (fun _ => q) (bnotF c49) (fun _ => faP fa29_9 q) q, oG q (fun _ => q) (bnotF c49) (fun _ => ldP q sz27 ag27 q) q, oG q (fun _ => q) (bnotF c49) (fun _ => mvV q) q, oG q (fun _ => q) (bnotF c49) (fun _ => ixR (l := a0.Sinks) (lit := TSink.lit) sl27 q q (fun _ => q) (g89_15 c49).1 (g89_15 c49).2) q, oG q (fun _ => q) (bnotF c49) (fun _ => faC fa67_0 q) q, oG q (fun _ => q) (bnotF c49) (fun _ => ldC q sz3 ag3 q) q, oG q (fun _ => q) (bnotF c49) (fun _ => faP fa29_0 q) q, oG q (fun _ => q) (bnotF c49) (fun _ => ldP q sz22 ag22 q) q, oG q (fun _ => q) (bnotF c49) (fun _ => lnR (l := a0.Vars) sl22 q) q, fun S hS hD hn => .oneI hS hD hn (gT q q q (bnotF c49)) q (callee_of q go50 q) (.pure q q (r21_in.D (g89_21 c49))) q q q, oG q (fun _ => q) (bnotF c49) (fun _ => notB q) q, oP (fun _ => pkFV q (bnotF c49) q) q, trivial⟩) _ (by exact ⟨.ptr q, .free q q, cB q (mOrF (bnotF c49) q), trivial⟩) (by rfl)
                · exact .drawM [(23, 95, bo true), (22, 94, und), (21, 93, und), (20, 92, und), (19, 91, und), (18, 90, und), (17, 89, und), (16, 88, und), (15, 87, und), (14, 86, und), (13, 85, und), (12, 84, und), (11, 83, bo (!t89_9)), (10, 82, bo (!t89_9)), (9, 81, bo t89_9), (8, 80, i6 (a0.Of.length : Int)), (7, 79, .rows (a0.Of.map (cInt .i64))), (6, 78, .ptr 0 1 10 0 5), (5, 77, i6 ((rdl a0.Sinks x11).Node)), (4, 76, .cptr (TSink.lit (rdl a0.Sinks x11)) 1), (3, 75, .cptr (TSink.lit (rdl a0.Sinks x11)) 0), (2, 74, i6 x11), (1, 73, .rows (a0.Sinks.map TSink.cells)), (0, 72, .ptr 0 1 10 0 9)] [] GH_A0 (by rfl) (by rfl) (by rfl) (by exact ⟨oP (fun _ => faP fa29_9 q) q, oP (fun _ => ldP q sz27 ag27 q) q, oP (fun _ => mvV q) q, oP (fun _ => ixR (l := a0.Sinks) (lit := TSink.lit) sl27 q q (fun _ => q) g89_3.1 g89_3.2) q, oP (fun _ => faC fa67_1 q) q, oP (fun _ => ldC q sz3 ag3 q) q, oP (fun _ => faP fa29_5 q) q, oP (fun _ => ldP q sz23 ag23 q) q, oP (fun _ => lnR (l := a0.Of) sl23 q) q, fun S hS hD hn => .oneI hS hD hn q q (callee_of q go50 q) (.pure q q (r21_in.D g89_9)) q q q, oP (fun _ => notB q) q, oP (fun _ => mvV q) q, oN q (fun _ => q) (bnotT (nb c49)) q, oN q (fun _ => q) (bnotT (nb c49)) q, oN q (fun _ => q) (bnotT (nb c49)) q, oN q (fun _ => q) (bnotT (nb c49)) q, oN q (fun _ => q) (bnotT (nb c49)) q, oN q (fun _ => q) (bnotT (nb c49)) q, oN q (fun _ => q) (bnotT (nb c49)) q, oN q (fun _ => q) (bnotT (nb c49)) q, oN q (fun _ => q) (bnotT (nb c49)) q, oN q (fun _ => q) (bnotT (nb c49)) q, oN q (fun _ => q) (bnotT (nb c49)) q, oP (fun _ => pkTV q (bnotT (nb c49)) q) q, trivial⟩) _ (by exact ⟨.ptr q, .free q q, cB q (mOrT (bnotT (nb c49))), trivial⟩) (by rfl)
              by_cases c50 : ((!t89_9) || (!t89_21)) = true
              · rw [if_pos c50] at h
                refine .condT q c50<|.seq<|.reg0 q (.o (asV q)<|.nil0) ?_
                have q24 := hr3 _ h
                replace q24 := q24.symm
                subst q24
                refine .kf [(2, i6 213)] q q ?_
                exact .ret q
              · rw [if_neg c50] at h
                refine .condF q (nb c50)<|.skip<|.inBlock<|.reg0 q (.o (mvV q)<|.o (addI q q)<|.o (asV q)<|.nil0)<|.keepL [0] [(1, .ptr 0 1 10 0 0), (6, i6 (IntKind.i64.wrap (x11 + 1)))] [⟨10, [(TGraph.lit a0)], 0, none⟩] (by decide) (by decide) ⟨.ptr q, .free q q, trivial⟩ ⟨⟨_, q, bcBox (all2_free q)⟩, trivial⟩ ?_
                exact hn3 _ h
            · rw [if_neg c48] at h
              refine .condF q (df c48)<|.exit q<|.keepL [] [] [] (by decide) (by decide) trivial trivial ?_
              exact hx3 _ h
        · rintro r_ rfl
          exact h
        · rintro x10 z2 h hn2 hx2 hr2
          dsimp only [r21_Check.b2] at h
          refine .seq<|.seq<|.reg0 q (.o (mvV q)<|.o (faP fa29_8 q)<|.o (ldP q sz26 ag26 q)<|.o (lnR (l := a0.Points) sl26 q)<|.o (ltI q q)<|.nil0) ?_
          by_cases c40 : x10 < (a0.Points.length : Int)
          · rw [if_pos c40] at h
            refine .condT q (dt c40)<|.skip<|.seq<|.block<|.seq ?_
            obtain ⟨g76_3, h⟩ := h
            obtain ⟨t76_9, g76_9, h⟩ := h
            refine .reg1 (e1 := listEnv [(1, .ptr 0 1 10 0 0), (5, i6 x10), (64, bo (!t76_9))]) (H1 := [⟨10, [(TGraph.lit a0)], 0, none⟩]) q ?_ ?_
            · exact .drawM [(10, 64, bo (!t76_9)), (9, 63, bo t76_9), (8, 62, i6 (a0.Of.length : Int)), (7, 61, .rows (a0.Of.map (cInt .i64))), (6, 60, .ptr 0 1 10 0 5), (5, 59, i6 ((rdl a0.Points x10).Node)), (4, 58, .cptr (TPoint.lit (rdl a0.Points x10)) 1), (3, 57, .cptr (TPoint.lit (rdl a0.Points x10)) 0), (2, 56, i6 x10), (1, 55, .rows (a0.Points.map TPoint.cells)), (0, 54, .ptr 0 1 10 0 8)] [] [[], [0], [], [1, 0, 2], [3, 1, 0, 2], [4, 3, 1, 0, 2], [], [6], [7, 6], [5, 4, 3, 1, 0, 2, 8, 7, 6], [9, 5, 4, 3, 1, 0, 2, 8, 7, 6]] (by rfl) (by rfl) (by rfl) (by exact ⟨oP (fun _ => faP fa29_8 q) q, oP (fun _ => ldP q sz26 ag26 q) q, oP (fun _ => mvV q) q, oP (fun _ => ixR (l := a0.Points) (lit := TPoint.lit) sl26 q q (fun _ => q) g76_3.1 g76_3.2) q, oP (fun _ => faC fa95_1 q) q, oP (fun _ => ldC q sz3 ag3 q) q, oP (fun _ => faP fa29_5 q) q, oP (fun _ => ldP q sz23 ag23 q) q, oP (fun _ => lnR (l := a0.Of) sl23 q) q, fun S hS hD hn => .oneI hS hD hn q q (callee_of q go50 q) (.pure q q (r21_in.D g76_9)) q q q, oP (fun _ => notB q) q, trivial⟩) _ (by exact ⟨.ptr q, .free q q, .free q q, trivial⟩) (by rfl)
            by_cases c41 : t76_9 = true
            · rw [if_pos c41] at h
              refine .condF q (bnotF c41)<|.skip<|.inBlock<|.reg0 q (.o (mvV q)<|.o (addI q q)<|.o (asV q)<|.nil0)<|.keepL [0] [(1, .ptr 0 1 10 0 0), (5, i6 (IntKind.i64.wrap (x10 + 1)))] [⟨10, [(TGraph.lit a0)], 0, none⟩] (by decide) (by decide) ⟨.ptr q, .free q q, trivial⟩ ⟨⟨_, q, bcBox (all2_free q)⟩, trivial⟩ ?_
              exact hn2 _ h
            · rw [if_neg c41] at h
              refine .condT q (bnotT (nb c41))<|.seq<|.reg0 q (.o (asV q)<|.nil0) ?_
              have q21 := hr2 _ h
              replace q21 := q21.symm
              subst q21
              refine .kf [(2, i6 213)] q q ?_
              exact .ret q
          · rw [if_neg c40] at h
            refine .condF q (df c40)<|.exit q<|.keepL [0] [(1, .ptr 0 1 10 0 0)] [⟨10, [(TGraph.lit a0)], 0, none⟩] (by decide) (by decide) ⟨.ptr q, trivial⟩ ⟨⟨_, q, bcBox (all2_free q)⟩, trivial⟩ ?_
            exact hx2 _ h
      · rw [if_neg c35] at h
        refine .condT q (nt c35)<|.seq<|.reg0 q (.o (asV q)<|.nil0) ?_
        replace h := h.symm
        subst h
        refine .kf [(2, i6 213)] q q ?_
        exact .ret q
    · rintro r_ rfl
      exact h
    · rintro ⟨x3, x4⟩ z1 h hn1 hx1 hr1
      dsimp only [r21_Check.b1] at h
      refine .seq<|.seq<|.reg0 q (.o (mvV q)<|.o (faP fa29_6 q)<|.o (ldP q sz24 ag24 q)<|.o (lnR (l := a0.Steps) sl24 q)<|.o (ltI q q)<|.nil0) ?_
      by_cases c24 : x4 < (a0.Steps.length : Int)
      · rw [if_pos c24] at h
        refine .condT q (dt c24)<|.skip<|.seq<|.block<|.seq<|.seq ?_
        obtain ⟨g55_4, h⟩ := h
        obtain ⟨t55_6, g55_6, h⟩ := h
        refine .reg1 (e1 := listEnv [(1, .ptr 0 1 10 0 0), (3, i6 x3), (4, i6 x4), (24, bo (!t55_6))]) (H1 := [⟨10, [(TGraph.lit a0)], 0, none⟩]) q ?_ ?_
        · exact .drawM [(7, 24, bo (!t55_6)), (6, 23, bo t55_6), (5, 22, .agg (TStep.lit (rdl a0.Steps x4))), (4, 21, .cptr (TStep.lit (rdl a0.Steps x4)) 0), (3, 20, i6 x4), (2, 19, .rows (a0.Steps.map TStep.cells)), (1, 18, .ptr 0 1 10 0 6), (0, 17, .agg (TGraph.lit a0))] [] [[], [], [1], [], [2, 1, 3], [4, 2, 1, 3], [0, 5, 4, 2, 1, 3], [6, 0, 5, 4, 2, 1, 3]] (by rfl) (by rfl) (by rfl) (by exact ⟨oP (fun _ => ldG q sz29 ag29 q) q, oP (fun _ => faP fa29_6 q) q, oP (fun _ => ldP q sz24 ag24 q) q, oP (fun _ => mvV q) q, oP (fun _ => ixR (l := a0.Steps) (lit := TStep.lit) sl24 q q (fun _ => q) g55_4.1 g55_4.2) q, oP (fun _ => ldCG q sz65 ag65 q) q, fun S hS hD hn => .oneI hS hD hn q q (callee_of q go49 q) (.pure q q (r21_step.D g55_6)) q q q, oP (fun _ => notB q) q, trivial⟩) _ (by exact ⟨.ptr q, .free q q, .free q q, .free q q, trivial⟩) (by rfl)
        by_cases c30 : t55_6 = true
        · rw [if_pos c30] at h
          refine .condF q (bnotF c30)<|.skip<|.seq ?_
          obtain ⟨g56_3, h⟩ := h
          refine .reg0 q (.o (faP fa29_6 q)<|.o (ldP q sz24 ag24 q)<|.m q<|.o (ixR (l := a0.Steps) (lit := TStep.lit) sl24 q q (fun _ => q) g56_3.1 g56_3.2)<|.o (faC fa65_2 q)<|.o (ldC q sz63 ag63 q)<|.o (eqI q q)<|.nil0) ?_
          refine .consJ (fun s_ => r21_Check.j1 x4 s_ z1) (fun x9 => listEnv [(1, .ptr 0 1 10 0 0), (3, i6 x9), (4, i6 x4)]) (fun x9 => [⟨10, [(TGraph.lit a0)], 0, none⟩]) ?_ fun hJ1 => ?_
          · rintro x9 h
            unfold r21_Check.j1 at h
            try dsimp only at h
            refine .inBlock<|.reg0 q (.o (mvV q)<|.o (addI q q)<|.o (asV q)<|.nil0)<|.keepL [0] [(1, .ptr 0 1 10 0 0), (3, i6 x9), (4, i6 (IntKind.i64.wrap (x4 + 1)))] [⟨10, [(TGraph.lit a0)], 0, none⟩] (by decide) (by decide) ⟨.ptr q, .free q q, .free q q, trivial⟩ ⟨⟨_, q, bcBox (all2_free q)⟩, trivial⟩ ?_
            exact hn1 _ h
          · by_cases c33 : (rdl a0.Steps x4).Kind = 8
            · rw [if_pos c33] at h
              refine .condT q (bt c33)<|.seq<|.seq ?_
              obtain ⟨g61_3, h⟩ := h
              refine .reg0 q (.o (faP fa29_6 q)<|.o (ldP q sz24 ag24 q)<|.m q<|.o (ixR (l := a0.Steps) (lit := TStep.lit) sl24 q q (fun _ => q) g61_3.1 g61_3.2)<|.o (faC fa65_6 q)<|.o (ldC q sz3 ag3 q)<|.m q<|.o (neI q q)<|.nil0) ?_
              by_cases c34 : (rdl a0.Steps x4).Site = x3
              · rw [if_pos c34] at h
                refine .condF q (nf c34)<|.skip<|.reg0 q (.o (mvV q)<|.o (addI q q)<|.o (asV q)<|.nil0)<|.keepL [0] [(1, .ptr 0 1 10 0 0), (3, i6 (IntKind.i64.wrap (x3 + 1))), (4, i6 x4)] [⟨10, [(TGraph.lit a0)], 0, none⟩] (by decide) (by decide) ⟨.ptr q, .free q q, .free q q, trivial⟩ ⟨⟨_, q, bcBox (all2_free q)⟩, trivial⟩ ?_
                exact hJ1 _ h
              · rw [if_neg c34] at h
                refine .condT q (nt c34)<|.seq<|.reg0 q (.o (asV q)<|.nil0) ?_
                have q17 := hr1 _ h
                replace q17 := q17.symm
                subst q17
                refine .kf [(2, i6 213)] q q ?_
                exact .ret q
            · rw [if_neg c33] at h
              refine .condF q (bn c33)<|.skip<|.keepL [0] [(1, .ptr 0 1 10 0 0), (3, i6 x3), (4, i6 x4)] [⟨10, [(TGraph.lit a0)], 0, none⟩] (by decide) (by decide) ⟨.ptr q, .free q q, .free q q, trivial⟩ ⟨⟨_, q, bcBox (all2_free q)⟩, trivial⟩ ?_
              exact hJ1 _ h
        · rw [if_neg c30] at h
          refine .condT q (bnotT (nb c30))<|.seq<|.reg0 q (.o (asV q)<|.nil0) ?_
          have q18 := hr1 _ h
          replace q18 := q18.symm
          subst q18
          refine .kf [(2, i6 213)] q q ?_
          exact .ret q
      · rw [if_neg c24] at h
        refine .condF q (df c24)<|.exit q<|.keepL [0] [(1, .ptr 0 1 10 0 0), (3, i6 x3)] [⟨10, [(TGraph.lit a0)], 0, none⟩] (by decide) (by decide) ⟨.ptr q, .free q q, trivial⟩ ⟨⟨_, q, bcBox (all2_free q)⟩, trivial⟩ ?_
        exact hx1 _ h
  · rw [if_neg c1] at h
    refine .condT q (bnotT (nb c1))<|.seq<|.reg0 q (.o (asV q)<|.nil0) ?_
    replace h := h.symm
    subst h
    refine .kf [(2, i6 213)] q q ?_
    exact .ret q
def r22_state.b1 (a1 : TState) : Int → Rnd Int Unit Bool → Prop := fun x1 z1 => if x1 < 64 then ((((0 : Int) ≤ (IntKind.u64.wrap x1))) ∧ if (bitOp .and .u64 (shrI .u64 a1.Marks (IntKind.u64.wrap x1)) 1) = 1 then (z1 = .ret false) else (z1 = .next (IntKind.i64.wrap (x1 + 1)))) else (z1 = .exit ())
def r22_state.b2 (a0 : TGraph) (a1 : TState) : (Int × Int) → Rnd ((Int × Int)) Unit Bool → Prop := fun (x2, x3) z2 => if x3 < (a1.Stack.length : Int) then (((InR x3 a1.Stack.length)) ∧ (¬ ((rdl a1.Stack x3) < 0) → ¬ ((rdl a1.Stack x3) ≥ (a0.Sites.length : Int)) → (InR (rdl a1.Stack x3) a0.Sites.length)) ∧ if ((decide ((rdl a1.Stack x3) < 0)) || ((decide ((rdl a1.Stack x3) ≥ (a0.Sites.length : Int))) || ((rdl a0.Sites (rdl a1.Stack x3)).Proc != x2))) = true then (z2 = .ret false) else (((InR (rdl a1.Stack x3) a0.Sites.length)) ∧ ((InR ((rdl a0.Sites (rdl a1.Stack x3)).From) a0.Of.length)) ∧ z2 = .next ((rdl a0.Of ((rdl a0.Sites (rdl a1.Stack x3)).From)), (IntKind.i64.wrap (x3 + 1))))) else (z2 = .exit ())
def r22_state.f (a0 : TGraph) (a1 : TState) (r : Bool) : Prop :=
  if ((decide (a1.Node < 0)) || ((decide (a1.Node ≥ (a0.Of.length : Int))) || ((!((a1.Env.length : Int) == (a0.Vars.length : Int))) || (decide ((a1.Stack.length : Int) > 4096))))) = true then (r = false) else (∃ o1 : Fin Unit Bool, Loop (r22_state.b1 a1) (a0.Vars.length : Int) o1 ∧ o1.on (fun _ => ((InR a1.Node a0.Of.length)) ∧ ∃ o2 : Fin Unit Bool, Loop (r22_state.b2 a0 a1) ((rdl a0.Of a1.Node), 0) o2 ∧ o2.on (fun _ => r = true) (fun r_ => r = r_)) (fun r_ => r = r_))
theorem r22_state.D {a0 a1 r} (h : r22_state.f a0 a1 r) : D Tryz.prog X (.callH 30 [.agg (TGraph.lit a0), .agg (TState.lit a1)] [] (.val (.bool r)) []) := by
  unfold r22_state.f at h
  refine .enter 96 0 fn30 q q q<|.seq<|.room 0<|.room 0<|.reg0 q (.o (bxP (s := 10) (cs := (TGraph.lit a0)) q ⟨q, by decide, q⟩ q)<|.op 1 q (bxP (s := 4) (cs := (TState.lit a1)) q ⟨q, by decide, q⟩ q)<|.o (asV q)<|.nil0)<|.seq<|.seq ?_
  refine .reg0 (e1 := listEnv [(2, .ptr 0 1 10 0 0), (3, .ptr 1 1 4 0 0), (34, bo ((decide (a1.Node < 0)) || ((decide (a1.Node ≥ (a0.Of.length : Int))) || ((!((a1.Env.length : Int) == (a0.Vars.length : Int))) || (decide ((a1.Stack.length : Int) > 4096))))))]) (H1 := [⟨10, [(TGraph.lit a0)], 0, none⟩, ⟨4, [(TState.lit a1)], 0, none⟩]) q ?_ ?_
  · refine .o (faP fa33_0 q)<|.o (ldP q sz3 ag3 q)<|.o (ltI q q)<|.m q<|?_
    by_cases c1 : a1.Node < 0
    · exact (.n q (dt c1)<|.n q (dt c1)<|.n q (dt c1)<|.n q (dt c1)<|.n q (dt c1)<|.n q (dt c1)<|.o (pkTV q (dt c1) q)<|.m q<|.n q q<|.n q q<|.n q q<|.n q q<|.n q q<|.n q q<|.n q q<|.o (pkTV q q q)<|.m q<|.n q q<|.n q q<|.n q q<|.n q q<|.o (pkTV q q q)<|.nilL _ ⟨.ptr q, .ptr q, cB q (mOrT (dt c1)), trivial⟩)
    · refine .g q (df c1) (faP fa33_0 q)<|.g q (df c1) (ldP q sz3 ag3 q)<|.g q (df c1) (faP fa29_5 q)<|.g q (df c1) (ldP q sz23 ag23 q)<|.g q (df c1) (lnR (l := a0.Of) sl23 q)<|.g q (df c1) (geI q q)<|.o (pkFV q (df c1) q)<|.m q<|?_
      by_cases c2 : a1.Node ≥ (a0.Of.length : Int)
      · exact (.n q (dt c2)<|.n q (dt c2)<|.n q (dt c2)<|.n q (dt c2)<|.n q (dt c2)<|.n q (dt c2)<|.n q (dt c2)<|.o (pkTV q (dt c2) q)<|.m q<|.n q q<|.n q q<|.n q q<|.n q q<|.o (pkTV q q q)<|.nilL _ ⟨.ptr q, .ptr q, cB q (mOrF (df c1) (mOrT (dt c2))), trivial⟩)
      · refine .g q (df c2) (faP fa33_1 q)<|.g q (df c2) (ldP q sz30 ag30 q)<|.g q (df c2) (lnR (l := a1.Env) sl30 q)<|.g q (df c2) (faP fa29_0 q)<|.g q (df c2) (ldP q sz22 ag22 q)<|.g q (df c2) (lnR (l := a0.Vars) sl22 q)<|.g q (df c2) (neI q q)<|.o (pkFV q (df c2) q)<|.m q<|?_
        by_cases c3 : (a1.Env.length : Int) = (a0.Vars.length : Int)
        · exact (.g q (nf c3) (faP fa33_3 q)<|.g q (nf c3) (ldP q sz23 ag23 q)<|.g q (nf c3) (lnR (l := a1.Stack) sl23 q)<|.g q (nf c3) (gtI q q)<|.o (pkFV q (nf c3) q)<|.nilL _ ⟨.ptr q, .ptr q, cB q (mOrF (df c1) (mOrF (df c2) (mOrF (bnotF (bt c3)) q))), trivial⟩)
        · exact (.n q (nt c3)<|.n q (nt c3)<|.n q (nt c3)<|.n q (nt c3)<|.o (pkTV q (nt c3) q)<|.nilL _ ⟨.ptr q, .ptr q, cB q (mOrF (df c1) (mOrF (df c2) (mOrT (bnotT (bn c3))))), trivial⟩)
  by_cases c4 : ((decide (a1.Node < 0)) || ((decide (a1.Node ≥ (a0.Of.length : Int))) || ((!((a1.Env.length : Int) == (a0.Vars.length : Int))) || (decide ((a1.Stack.length : Int) > 4096))))) = true
  · rw [if_pos c4] at h
    refine .condT q c4<|.seq<|.reg0 q (.o (asV q)<|.nil0) ?_
    replace h := h.symm
    subst h
    refine .kf [(4, bo false)] q q ?_
    exact .ret q
  · rw [if_neg c4] at h
    refine .condF q (nb c4)<|.skip<|.seq<|.seq<|.reg0 q (.o (faP fa29_0 q)<|.o (ldP q sz22 ag22 q)<|.o (lnR (l := a0.Vars) sl22 q)<|.o (asV q)<|.nil0)<|.block<|.keepL [0, 1] [(2, .ptr 0 1 10 0 0), (3, .ptr 1 1 4 0 0), (5, i6 (a0.Vars.length : Int))] [⟨10, [(TGraph.lit a0)], 0, none⟩, ⟨4, [(TState.lit a1)], 0, none⟩] (by decide) (by decide) ⟨.ptr q, .ptr q, .free q q, trivial⟩ ⟨⟨_, q, bcBox (all2_free q)⟩, ⟨_, q, bcBox (all2_free q)⟩, trivial⟩ ?_
    obtain ⟨o1, hL1, h⟩ := h
    refine .loopB (r22_state.b1 a1) (fun x1 => listEnv [(2, .ptr 0 1 10 0 0), (3, .ptr 1 1 4 0 0), (5, i6 x1)]) (fun x1 => [⟨10, [(TGraph.lit a0)], 0, none⟩, ⟨4, [(TState.lit a1)], 0, none⟩]) (fun _ => listEnv [(2, .ptr 0 1 10 0 0), (3, .ptr 1 1 4 0 0)]) (fun _ => [⟨10, [(TGraph.lit a0)], 0, none⟩, ⟨4, [(TState.lit a1)], 0, none⟩]) hL1 (fun r_ => r = r_) ?_ ?_ ?_
    · rintro ⟨⟩ rfl
      try dsimp only [Fin.on] at h
      refine .seq ?_
      obtain ⟨g17_4, h⟩ := h
      refine .reg0 q (.o (faP fa29_5 q)<|.o (ldP q sz23 ag23 q)<|.o (faP fa33_0 q)<|.o (ldP q sz3 ag3 q)<|.o (ixR (l := a0.Of) (lit := (cInt .i64)) sl23 q q (fun _ => q) g17_4.1 g17_4.2)<|.o (ldC q sz3 ag3 q)<|.a q<|.nil0)<|.seq<|.seq<|.reg0 q (.o (asV q)<|.nil0)<|.block<|.keepL [0, 1] [(2, .ptr 0 1 10 0 0), (3, .ptr 1 1 4 0 0), (6, i6 (rdl a0.Of a1.Node)), (7, i6 0)] [⟨10, [(TGraph.lit a0)], 0, none⟩, ⟨4, [(TState.lit a1)], 0, none⟩] (by decide) (by decide) ⟨.ptr q, .ptr q, .free q q, .free q q, trivial⟩ ⟨⟨_, q, bcBox (all2_free q)⟩, ⟨_, q, bcBox (all2_free q)⟩, trivial⟩ ?_
      obtain ⟨o2, hL2, h⟩ := h
      refine .loopB (r22_state.b2 a0 a1) (fun (x2, x3) => listEnv [(2, .ptr 0 1 10 0 0), (3, .ptr 1 1 4 0 0), (6, i6 x2), (7, i6 x3)]) (fun (x2, x3) => [⟨10, [(TGraph.lit a0)], 0, none⟩, ⟨4, [(TState.lit a1)], 0, none⟩]) (fun _ => listEnv []) (fun _ => []) hL2 (fun r_ => r = r_) ?_ ?_ ?_
      · rintro ⟨⟩ rfl
        try dsimp only [Fin.on] at h
        refine .seq<|.reg0 q (.o (asV q)<|.nil0) ?_
        replace h := h.symm
        subst h
        refine .kf [(4, bo true)] q q ?_
        exact .ret q
      · rintro r_ rfl
        exact h
      · rintro ⟨x2, x3⟩ z2 h hn2 hx2 hr2
        dsimp only [r22_state.b2] at h
        refine .seq<|.seq<|.reg0 q (.o (mvV q)<|.o (faP fa33_3 q)<|.o (ldP q sz23 ag23 q)<|.o (lnR (l := a1.Stack) sl23 q)<|.o (ltI q q)<|.nil0) ?_
        by_cases c19 : x3 < (a1.Stack.length : Int)
        · rw [if_pos c19] at h
          refine .condT q (dt c19)<|.skip<|.seq<|.block<|.seq ?_
          obtain ⟨g32_3, h⟩ := h
          refine .reg0 q (.o (faP fa33_3 q)<|.o (ldP q sz23 ag23 q)<|.m q<|.o (ixR (l := a1.Stack) (lit := (cInt .i64)) sl23 q q (fun _ => q) g32_3.1 g32_3.2)<|.o (ldC q sz3 ag3 q)<|.a q<|.nil0)<|.seq<|.seq ?_
          obtain ⟨g33_13, h⟩ := h
          refine .reg0 (e1 := listEnv [(2, .ptr 0 1 10 0 0), (3, .ptr 1 1 4 0 0), (7, i6 x3), (8, i6 (rdl a1.Stack x3)), (85, bo ((decide ((rdl a1.Stack x3) < 0)) || ((decide ((rdl a1.Stack x3) ≥ (a0.Sites.length : Int))) || ((rdl a0.Sites (rdl a1.Stack x3)).Proc != x2))))]) (H1 := [⟨10, [(TGraph.lit a0)], 0, none⟩, ⟨4, [(TState.lit a1)], 0, none⟩]) q ?_ ?_
          · refine .m q<|.o (ltI q q)<|.m q<|?_
            by_cases c20 : (rdl a1.Stack x3) < 0
            · exact (.n q (dt c20)<|.n q (dt c20)<|.n q (dt c20)<|.n q (dt c20)<|.n q (dt c20)<|.o (pkTV q (dt c20) q)<|.m q<|.n q q<|.n q q<|.n q q<|.n q q<|.n q q<|.n q q<|.n q q<|.n q q<|.o (pkTV q q q)<|.nilL _ ⟨.ptr q, .ptr q, .free q q, .free q q, cB q (mOrT (dt c20)), trivial⟩)
            · refine .g q (df c20) (mvV q)<|.g q (df c20) (faP fa29_7 q)<|.g q (df c20) (ldP q sz25 ag25 q)<|.g q (df c20) (lnR (l := a0.Sites) sl25 q)<|.g q (df c20) (geI q q)<|.o (pkFV q (df c20) q)<|.m q<|?_
              by_cases c21 : (rdl a1.Stack x3) ≥ (a0.Sites.length : Int)
              · exact (.n q (dt c21)<|.n q (dt c21)<|.n q (dt c21)<|.n q (dt c21)<|.n q (dt c21)<|.n q (dt c21)<|.n q (dt c21)<|.n q (dt c21)<|.o (pkTV q (dt c21) q)<|.nilL _ ⟨.ptr q, .ptr q, .free q q, .free q q, cB q (mOrF (df c20) (mOrT (dt c21))), trivial⟩)
              · exact (.g q (df c21) (faP fa29_7 q)<|.g q (df c21) (ldP q sz25 ag25 q)<|.g q (df c21) (mvV q)<|.g q (df c21) (ixR (l := a0.Sites) (lit := TSite.lit) sl25 q q (fun _ => q) (g33_13 c20 c21).1 (g33_13 c20 c21).2)<|.g q (df c21) (faC fa70_1 q)<|.g q (df c21) (ldC q sz3 ag3 q)<|.g q (df c21) (mvV q)<|.g q (df c21) (neI q q)<|.o (pkFV q (df c21) q)<|.nilL _ ⟨.ptr q, .ptr q, .free q q, .free q q, cB q (mOrF (df c20) (mOrF (df c21) q)), trivial⟩)
          by_cases c22 : ((decide ((rdl a1.Stack x3) < 0)) || ((decide ((rdl a1.Stack x3) ≥ (a0.Sites.length : Int))) || ((rdl a0.Sites (rdl a1.Stack x3)).Proc != x2))) = true
          · rw [if_pos c22] at h
            refine .condT q c22<|.seq<|.reg0 q (.o (asV q)<|.nil0) ?_
            have q6 := hr2 _ h
            replace q6 := q6.symm
            subst q6
            refine .kf [(4, bo false)] q q ?_
            exact .ret q
          · rw [if_neg c22] at h
            refine .condF q (nb c22)<|.skip ?_
            obtain ⟨g35_5, h⟩ := h
            obtain ⟨g35_8, h⟩ := h
            refine .reg1 (e1 := listEnv [(2, .ptr 0 1 10 0 0), (3, .ptr 1 1 4 0 0), (6, i6 (rdl a0.Of ((rdl a0.Sites (rdl a1.Stack x3)).From))), (7, i6 x3)]) (H1 := [⟨10, [(TGraph.lit a0)], 0, none⟩, ⟨4, [(TState.lit a1)], 0, none⟩]) q ?_ ?_
            · exact .drawM [(10, 6, i6 (rdl a0.Of ((rdl a0.Sites (rdl a1.Stack x3)).From))), (9, 95, i6 (rdl a0.Of ((rdl a0.Sites (rdl a1.Stack x3)).From))), (8, 94, .cptr ((cInt .i64) (rdl a0.Of ((rdl a0.Sites (rdl a1.Stack x3)).From))) 0), (7, 93, i6 ((rdl a0.Sites (rdl a1.Stack x3)).From)), (6, 92, .cptr (TSite.lit (rdl a0.Sites (rdl a1.Stack x3))) 2), (5, 91, .cptr (TSite.lit (rdl a0.Sites (rdl a1.Stack x3))) 0), (4, 90, i6 (rdl a1.Stack x3)), (3, 89, .rows (a0.Sites.map TSite.cells)), (2, 88, .ptr 0 1 10 0 7), (1, 87, .rows (a0.Of.map (cInt .i64))), (0, 86, .ptr 0 1 10 0 5)] [] [[], [0], [], [2], [], [3, 2, 4], [5, 3, 2, 4], [6, 5, 3, 2, 4], [1, 0, 7, 6, 5, 3, 2, 4], [8, 1, 0, 7, 6, 5, 3, 2, 4], [9, 8, 1, 0, 7, 6, 5, 3, 2, 4]] (by rfl) (by rfl) (by rfl) (by exact ⟨oP (fun _ => faP fa29_5 q) q, oP (fun _ => ldP q sz23 ag23 q) q, oP (fun _ => faP fa29_7 q) q, oP (fun _ => ldP q sz25 ag25 q) q, oP (fun _ => mvV q) q, oP (fun _ => ixR (l := a0.Sites) (lit := TSite.lit) sl25 q q (fun _ => q) g35_5.1 g35_5.2) q, oP (fun _ => faC fa70_2 q) q, oP (fun _ => ldC q sz3 ag3 q) q, oP (fun _ => ixR (l := a0.Of) (lit := (cInt .i64)) sl23 q q (fun _ => q) g35_8.1 g35_8.2) q, oP (fun _ => ldC q sz3 ag3 q) q, oP (fun _ => asV q) q, trivial⟩) _ (by exact ⟨.ptr q, .ptr q, .free q q, .free q q, trivial⟩) (by rfl)
            refine .inBlock<|.reg0 q (.o (mvV q)<|.o (addI q q)<|.o (asV q)<|.nil0)<|.keepL [0, 1] [(2, .ptr 0 1 10 0 0), (3, .ptr 1 1 4 0 0), (6, i6 (rdl a0.Of ((rdl a0.Sites (rdl a1.Stack x3)).From))), (7, i6 (IntKind.i64.wrap (x3 + 1)))] [⟨10, [(TGraph.lit a0)], 0, none⟩, ⟨4, [(TState.lit a1)], 0, none⟩] (by decide) (by decide) ⟨.ptr q, .ptr q, .free q q, .free q q, trivial⟩ ⟨⟨_, q, bcBox (all2_free q)⟩, ⟨_, q, bcBox (all2_free q)⟩, trivial⟩ ?_
            exact hn2 _ h
        · rw [if_neg c19] at h
          refine .condF q (df c19)<|.exit q<|.keepL [] [] [] (by decide) (by decide) trivial trivial ?_
          exact hx2 _ h
    · rintro r_ rfl
      exact h
    · rintro x1 z1 h hn1 hx1 hr1
      dsimp only [r22_state.b1] at h
      refine .seq<|.seq<|.reg0 q (.o (mvV q)<|.o (ltI q q)<|.nil0) ?_
      by_cases c9 : x1 < 64
      · rw [if_pos c9] at h
        refine .condT q (dt c9)<|.skip<|.seq<|.block<|.seq ?_
        obtain ⟨g14_4, h⟩ := h
        refine .reg0 q (.o (faP fa33_2 q)<|.o (ldP q sz31 ag31 q)<|.m q<|.o (convI un3 un68 q)<|.o (shr_ q q g14_4)<|.o (andI q q)<|.o (eqI q q)<|.nil0) ?_
        by_cases c10 : (bitOp .and .u64 (shrI .u64 a1.Marks (IntKind.u64.wrap x1)) 1) = 1
        · rw [if_pos c10] at h
          refine .condT q (bt c10)<|.seq<|.reg0 q (.o (asV q)<|.nil0) ?_
          have q3 := hr1 _ h
          replace q3 := q3.symm
          subst q3
          refine .kf [(4, bo false)] q q ?_
          exact .ret q
        · rw [if_neg c10] at h
          refine .condF q (bn c10)<|.skip<|.inBlock<|.reg0 q (.o (mvV q)<|.o (addI q q)<|.o (asV q)<|.nil0)<|.keepL [0, 1] [(2, .ptr 0 1 10 0 0), (3, .ptr 1 1 4 0 0), (5, i6 (IntKind.i64.wrap (x1 + 1)))] [⟨10, [(TGraph.lit a0)], 0, none⟩, ⟨4, [(TState.lit a1)], 0, none⟩] (by decide) (by decide) ⟨.ptr q, .ptr q, .free q q, trivial⟩ ⟨⟨_, q, bcBox (all2_free q)⟩, ⟨_, q, bcBox (all2_free q)⟩, trivial⟩ ?_
          exact hn1 _ h
      · rw [if_neg c9] at h
        refine .condF q (df c9)<|.exit q<|.keepL [0, 1] [(2, .ptr 0 1 10 0 0), (3, .ptr 1 1 4 0 0)] [⟨10, [(TGraph.lit a0)], 0, none⟩, ⟨4, [(TState.lit a1)], 0, none⟩] (by decide) (by decide) ⟨.ptr q, .ptr q, trivial⟩ ⟨⟨_, q, bcBox (all2_free q)⟩, ⟨_, q, bcBox (all2_free q)⟩, trivial⟩ ?_
        exact hx1 _ h
def r22_Check.f (a0 : TGraph) (a1 : TState) (r : Int) : Prop :=
  ∃ t2_1 : Int, (r21_Check.f a0 t2_1) ∧ if t2_1 = 0 then (∃ t4_2 : Bool, (r22_state.f a0 a1 t4_2) ∧ if t4_2 = true then (r = 0) else (r = 220)) else (r = t2_1)
theorem r22_Check.D {a0 a1 r} (h : r22_Check.f a0 a1 r) : D Tryz.prog X (.callH 17 [.agg (TGraph.lit a0), .agg (TState.lit a1)] [] (.val (.int .i64 r)) []) := by
  unfold r22_Check.f at h
  refine .enter 15 0 fn17 q q q<|.seq<|.room 0<|.room 0<|.reg0 q (.o (bxP (s := 10) (cs := (TGraph.lit a0)) q ⟨q, by decide, q⟩ q)<|.op 1 q (bxP (s := 4) (cs := (TState.lit a1)) q ⟨q, by decide, q⟩ q)<|.o (asV q)<|.nil0)<|.seq ?_
  obtain ⟨t2_1, g2_1, h⟩ := h
  refine .reg0 q (.o (ldG q sz29 ag29 q)<|.c q go26 q q q (r21_Check.D g2_1)<|.a q<|.nil0)<|.seq<|.seq<|.reg0 q (.o (mvV q)<|.o (neI q q)<|.nil0) ?_
  by_cases c1 : t2_1 = 0
  · rw [if_pos c1] at h
    refine .condF q (nf c1)<|.skip<|.seq<|.seq ?_
    obtain ⟨t4_2, g4_2, h⟩ := h
    refine .reg0 q (.o (ldG q sz29 ag29 q)<|.o (ldG q sz33 ag33 q)<|.c q go30 q q q (r22_state.D g4_2)<|.o (notB q)<|.nil0) ?_
    by_cases c2 : t4_2 = true
    · rw [if_pos c2] at h
      refine .condF q (bnotF c2)<|.skip<|.seq<|.reg0 q (.o (asV q)<|.nil0) ?_
      replace h := h.symm
      subst h
      refine .kf [(4, i6 0)] q q ?_
      exact .ret q
    · rw [if_neg c2] at h
      refine .condT q (bnotT (nb c2))<|.seq<|.reg0 q (.o (asV q)<|.nil0) ?_
      replace h := h.symm
      subst h
      refine .kf [(4, i6 220)] q q ?_
      exact .ret q
  · rw [if_neg c1] at h
    refine .condT q (nt c1)<|.seq<|.reg0 q (.o (mvV q)<|.o (asV q)<|.nil0) ?_
    replace h := h.symm
    subst h
    refine .kf [(4, i6 t2_1)] q q ?_
    exact .ret q
def r22_over.f (a0 : TGraph) (a1 : TState) (r : Bool) : Prop :=
  (((a1.Stack.length : Int) > 0) → (InR a1.Node a0.Of.length)) ∧ (((a1.Stack.length : Int) > 0) → (InR (rdl a0.Of a1.Node) a0.Exit.length)) ∧ r = ((decide ((a1.Stack.length : Int) > 0)) && (a1.Node == (rdl a0.Exit (rdl a0.Of a1.Node))))
abbrev GH_A1 : List (List Nat) := [[], [0], [1, 0], [2, 1, 0], [3, 2, 1, 0], [4, 3, 2, 1, 0], [5, 4, 3, 2, 1, 0], [4, 3, 2, 1, 0], [7, 4, 3, 2, 1, 0], [4, 3, 2, 1, 0], [9, 4, 3, 2, 1, 0], [4, 3, 2, 1, 0], [11, 4, 3, 2, 1, 0], [10, 9, 4, 3, 2, 1, 0, 12, 11], [13, 10, 9, 4, 3, 2, 1, 0, 12, 11], [8, 7, 4, 3, 2, 1, 0, 14, 13, 10, 9, 12, 11], [15, 8, 7, 4, 3, 2, 1, 0, 14, 13, 10, 9, 12, 11], [6, 5, 4, 3, 2, 1, 0, 16, 15, 8, 7, 14, 13, 10, 9, 12, 11], [4, 3, 2, 1, 0, 17, 6, 5, 16, 15, 8, 7, 14, 13, 10, 9, 12, 11], [18, 4, 3, 2, 1, 0, 17, 6, 5, 16, 15, 8, 7, 14, 13, 10, 9, 12, 11]]
theorem r22_over.D {a0 a1 r} (h : r22_over.f a0 a1 r) : D Tryz.prog X (.callH 29 [.agg (TGraph.lit a0), .agg (TState.lit a1)] [] (.val (.bool r)) []) := by
  unfold r22_over.f at h
  refine .enter 24 0 fn29 q q q<|.seq<|.room 0<|.room 0<|.reg0 q (.o (bxP (s := 10) (cs := (TGraph.lit a0)) q ⟨q, by decide, q⟩ q)<|.op 1 q (bxP (s := 4) (cs := (TState.lit a1)) q ⟨q, by decide, q⟩ q)<|.o (asV q)<|.nil0)<|.seq ?_
  obtain ⟨g2_13, h⟩ := h
  obtain ⟨g2_15, h⟩ := h
  refine .reg1 (e1 := listEnv [(4, bo ((decide ((a1.Stack.length : Int) > 0)) && (a1.Node == (rdl a0.Exit (rdl a0.Of a1.Node)))))]) (H1 := [⟨10, [(TGraph.lit a0)], 0, none⟩, ⟨4, [(TState.lit a1)], 0, none⟩]) q ?_ ?_
  · by_cases c1 : (a1.Stack.length : Int) > 0
    · exact .drawM [(19, 4, bo (a1.Node == (rdl a0.Exit (rdl a0.Of a1.Node)))), (18, 23, bo (a1.Node == (rdl a0.Exit (rdl a0.Of a1.Node)))), (17, 22, bo (a1.Node == (rdl a0.Exit (rdl a0.Of a1.Node)))), (16, 21, i6 (rdl a0.Exit (rdl a0.Of a1.Node))), (15, 20, .cptr ((cInt .i64) (rdl a0.Exit (rdl a0.Of a1.Node))) 0), (14, 19, i6 (rdl a0.Of a1.Node)), (13, 18, .cptr ((cInt .i64) (rdl a0.Of a1.Node)) 0), (12, 17, i6 a1.Node), (11, 16, .ptr 1 1 4 0 0), (10, 15, .rows (a0.Of.map (cInt .i64))), (9, 14, .ptr 0 1 10 0 5), (8, 13, .rows (a0.Exit.map (cInt .i64))), (7, 12, .ptr 0 1 10 0 3), (6, 11, i6 a1.Node), (5, 10, .ptr 1 1 4 0 0), (4, 9, bo (decide ((a1.Stack.length : Int) > 0))), (3, 8, bo (decide ((a1.Stack.length : Int) > 0))), (2, 7, i6 (a1.Stack.length : Int)), (1, 6, .rows (a1.Stack.map (cInt .i64))), (0, 5, .ptr 1 1 4 0 3)] [] GH_A1 (by rfl) (by rfl) (by rfl) (by exact ⟨oP (fun _ => faP fa33_3 q) q, oP (fun _ => ldP q sz23 ag23 q) q, oP (fun _ => lnR (l := a1.Stack) sl23 q) q, oP (fun _ => gtI q q) q, oP (fun _ => mvV q) q, oG q (fun _ => q) (dt c1) (fun _ => faP fa33_0 q) q, oG q (fun _ => q) (dt c1) (fun _ => ldP q sz3 ag3 q) q, oG q (fun _ => q) (dt c1) (fun _ => faP fa29_3 q) q, oG q (fun _ => q) (dt c1) (fun _ => ldP q sz23 ag23 q) q, oG q (fun _ => q) (dt c1) (fun _ => faP fa29_5 q) q, oG q (fun _ => q) (dt c1) (fun _ => ldP q sz23 ag23 q) q, oG q (fun _ => q) (dt c1) (fun _ => faP fa33_0 q) q, oG q (fun _ => q) (dt c1) (fun _ => ldP q sz3 ag3 q) q, oG q (fun _ => q) (dt c1) (fun _ => ixR (l := a0.Of) (lit := (cInt .i64)) sl23 q q (fun _ => q) (g2_13 c1).1 (g2_13 c1).2) q, oG q (fun _ => q) (dt c1) (fun _ => ldC q sz3 ag3 q) q, oG q (fun _ => q) (dt c1) (fun _ => ixR (l := a0.Exit) (lit := (cInt .i64)) sl23 q q (fun _ => q) (g2_15 c1).1 (g2_15 c1).2) q, oG q (fun _ => q) (dt c1) (fun _ => ldC q sz3 ag3 q) q, oG q (fun _ => q) (dt c1) (fun _ => eqI q q) q, oP (fun _ => pkTV q (dt c1) q) q, oP (fun _ => asV q) q, trivial⟩) _ (by exact ⟨cB q (mAndT (dt c1) q), trivial⟩) (by rfl)
    · exact .drawM [(19, 4, bo false), (18, 23, bo false), (17, 22, und), (16, 21, und), (15, 20, und), (14, 19, und), (13, 18, und), (12, 17, und), (11, 16, und), (10, 15, und), (9, 14, und), (8, 13, und), (7, 12, und), (6, 11, und), (5, 10, und), (4, 9, bo (decide ((a1.Stack.length : Int) > 0))), (3, 8, bo (decide ((a1.Stack.length : Int) > 0))), (2, 7, i6 (a1.Stack.length : Int)), (1, 6, .rows (a1.Stack.map (cInt .i64))), (0, 5, .ptr 1 1 4 0 3)] [] GH_A1 (by rfl) (by rfl) (by rfl) (by exact ⟨oP (fun _ => faP fa33_3 q) q, oP (fun _ => ldP q sz23 ag23 q) q, oP (fun _ => lnR (l := a1.Stack) sl23 q) q, oP (fun _ => gtI q q) q, oP (fun _ => mvV q) q, oN q (fun _ => q) (df c1) q, oN q (fun _ => q) (df c1) q, oN q (fun _ => q) (df c1) q, oN q (fun _ => q) (df c1) q, oN q (fun _ => q) (df c1) q, oN q (fun _ => q) (df c1) q, oN q (fun _ => q) (df c1) q, oN q (fun _ => q) (df c1) q, oN q (fun _ => q) (df c1) q, oN q (fun _ => q) (df c1) q, oN q (fun _ => q) (df c1) q, oN q (fun _ => q) (df c1) q, oN q (fun _ => q) (df c1) q, oP (fun _ => pkFV q (df c1) q) q, oP (fun _ => asV q) q, trivial⟩) _ (by exact ⟨cB q (mAndF (df c1)), trivial⟩) (by rfl)
  replace h := h.symm
  subst h
  refine .kf [(4, bo ((decide ((a1.Stack.length : Int) > 0)) && (a1.Node == (rdl a0.Exit (rdl a0.Of a1.Node)))))] q q ?_
  exact .ret q
def r22_next.j1 (x13 : Int) : (List TMove) → (Rnd (((List TMove) × Int)) ((List TMove)) ((List TMove))) → Prop := fun x25 z1 => z1 = .next (x25, (IntKind.i64.wrap (x13 + 1)))
def r22_next.b2 (a2 : List Int) (x13 : Int) : ((List TMove) × Int) → Rnd (((List TMove) × Int)) ((List TMove)) ((List TMove)) → Prop := fun (x26, x27) z2 => if x27 < (a2.length : Int) then (((InR x27 a2.length)) ∧ ((Fits (x26.length + 1) 16)) ∧ z2 = .next ((x26 ++ [(TMove.mk x13 (rdl a2 x27))]), (IntKind.i64.wrap (x27 + 1)))) else (z2 = .exit x26)
def r22_next.b1 (a0 : TGraph) (a1 : TState) (a2 : List Int) : ((List TMove) × Int) → Rnd (((List TMove) × Int)) ((List TMove)) ((List TMove)) → Prop := fun (x12, x13) z1 => if x13 < (a0.Steps.length : Int) then (((InR x13 a0.Steps.length)) ∧ if (rdl a0.Steps x13).From = a1.Node then (((InR x13 a0.Steps.length)) ∧ if (rdl a0.Steps x13).Kind = 4 then (∃ o2 : Fin ((List TMove)) ((List TMove)), Loop (r22_next.b2 a2 x13) (x12, 0) o2 ∧ o2.on (fun x28 => r22_next.j1 x13 x28 z1) (fun r_ => z1 = .ret r_)) else (((Fits (x12.length + 1) 16)) ∧ r22_next.j1 x13 (x12 ++ [(TMove.mk x13 0)]) z1)) else (r22_next.j1 x13 x12 z1)) else (z1 = .exit x12)
def r22_next.f (a0 : TGraph) (a1 : TState) (a2 : List Int) (r : (List TMove)) : Prop :=
  ∃ o1 : Fin ((List TMove)) ((List TMove)), Loop (r22_next.b1 a0 a1 a2) ([], 0) o1 ∧ o1.on (fun x21 => ∃ t73_2 : Bool, (r22_over.f a0 a1 t73_2) ∧ if t73_2 = true then (((Fits (x21.length + 1) 16)) ∧ r = (x21 ++ [(TMove.mk (-1) 0)])) else (r = x21)) (fun r_ => r = r_)
theorem r22_next.D {a0 a1 a2 r} (h : r22_next.f a0 a1 a2 r) : D Tryz.prog X (.callH 55 [.agg (TGraph.lit a0), .agg (TState.lit a1), .rows (a2.map (cInt .i64))] [] (.rows (r.map TMove.cells)) []) := by
  unfold r22_next.f at h
  refine .enter 61 0 fn55 q q q<|.seq<|.room 0<|.room 0<|.reg0 q (.o (bxP (s := 10) (cs := (TGraph.lit a0)) q ⟨q, by decide, q⟩ q)<|.op 1 q (bxP (s := 4) (cs := (TState.lit a1)) q ⟨q, by decide, q⟩ q)<|.o (asV q)<|.nil0)<|.seq<|.reg0 q (.o (asV q)<|.nil0)<|.seq<|.seq<|.reg0 q (.o (asV q)<|.nil0)<|.block<|.room 2<|.keepL [0, 1, 2] [(2, .rows (a2.map (cInt .i64))), (3, .ptr 0 1 10 0 0), (4, .ptr 1 1 4 0 0), (7, .own 2 0), (8, i6 0)] [⟨10, [(TGraph.lit a0)], 0, none⟩, ⟨4, [(TState.lit a1)], 0, none⟩, ⟨2, [].map TMove.cells, 0, none⟩] (by decide) (by decide) ⟨.free q q, .ptr q, .ptr q, .nilOwn, .free q q, trivial⟩ ⟨⟨_, q, bcBox (all2_free q)⟩, ⟨_, q, bcBox (all2_free q)⟩, ⟨_, q, (bcRow (l := []) sl52 (Nat.le_refl _) q)⟩, trivial⟩ ?_
  obtain ⟨o1, hL1, h⟩ := h
  refine .loopB (r22_next.b1 a0 a1 a2) (fun (x12, x13) => listEnv [(2, .rows (a2.map (cInt .i64))), (3, .ptr 0 1 10 0 0), (4, .ptr 1 1 4 0 0), (7, .own 2 x12.length), (8, i6 x13)]) (fun (x12, x13) => [⟨10, [(TGraph.lit a0)], 0, none⟩, ⟨4, [(TState.lit a1)], 0, none⟩, ⟨2, x12.map TMove.cells, 0, none⟩]) (fun x21 => listEnv [(3, .ptr 0 1 10 0 0), (4, .ptr 1 1 4 0 0), (7, .own 2 x21.length)]) (fun x21 => [⟨10, [(TGraph.lit a0)], 0, none⟩, ⟨4, [(TState.lit a1)], 0, none⟩, ⟨2, x21.map TMove.cells, 0, none⟩]) hL1 (fun r_ => r = r_) ?_ ?_ ?_
  · rintro x21 rfl
    try dsimp only [Fin.on] at h
    refine .seq<|.seq ?_
    obtain ⟨t73_2, g73_2, h⟩ := h
    refine .reg0 q (.o (ldG q sz29 ag29 q)<|.o (ldG q sz33 ag33 q)<|.c q go29 q q q (r22_over.D g73_2)<|.nil0) ?_
    by_cases c29 : t73_2 = true
    · rw [if_pos c29] at h
      refine .condT q c29 ?_
      obtain ⟨g74_3, h⟩ := h
      refine .room 0<|.room 0<|.reg0 q (.o (mvO q)<|.o (bldS (cs := [i6 (-1), i6 0]) ze54 pl54 q q)<|.op 3 q (bldL (s := 2) (cs := [i6 (-1), i6 0]) un52 sz54 ze54 ⟨by decide, q, by decide⟩ q q q q)<|.o (ap1 (l := x21) (TMove.mk (-1) 0) sl52 q q q (Nat.zero_le _) (elems_own (l := [(TMove.mk (-1) 0)]) q q) g74_3)<|.o (asO q)<|.nil0) ?_
      refine .seq<|.reg0 q (.o (mvO q)<|.o (asO q)<|.nil0) ?_
      replace h := h.symm
      subst h
      refine .k [(6, .rows ((x21 ++ [(TMove.mk (-1) 0)]).map TMove.cells))] ⟨cFixO (l := (x21 ++ [(TMove.mk (-1) 0)])) sl52 q q q q, trivial⟩ ?_
      exact .ret q
    · rw [if_neg c29] at h
      refine .condF q (nb c29)<|.skip<|.seq<|.reg0 q (.o (mvO q)<|.o (asO q)<|.nil0) ?_
      replace h := h.symm
      subst h
      refine .k [(6, .rows (x21.map TMove.cells))] ⟨cFixO (l := x21) sl52 q q q q, trivial⟩ ?_
      exact .ret q
  · rintro r_ rfl
    exact h
  · rintro ⟨x12, x13⟩ z1 h hn1 hx1 hr1
    dsimp only [r22_next.b1] at h
    refine .seq<|.seq<|.reg0 q (.o (mvV q)<|.o (faP fa29_6 q)<|.o (ldP q sz24 ag24 q)<|.o (lnR (l := a0.Steps) sl24 q)<|.o (ltI q q)<|.nil0) ?_
    by_cases c19 : x13 < (a0.Steps.length : Int)
    · rw [if_pos c19] at h
      refine .condT q (dt c19)<|.skip<|.seq ?_
      refine .consJ (fun s_ => r22_next.j1 x13 s_ z1) (fun x25 => listEnv [(2, .rows (a2.map (cInt .i64))), (3, .ptr 0 1 10 0 0), (4, .ptr 1 1 4 0 0), (7, .own 2 x25.length), (8, i6 x13)]) (fun x25 => [⟨10, [(TGraph.lit a0)], 0, none⟩, ⟨4, [(TState.lit a1)], 0, none⟩, ⟨2, x25.map TMove.cells, 0, none⟩]) ?_ fun hJ1 => ?_
      · rintro x25 h
        unfold r22_next.j1 at h
        try dsimp only at h
        refine .reg0 q (.m q<|.o (addI q q)<|.a q<|.nil0)<|.keepL [0, 1, 2] [(2, .rows (a2.map (cInt .i64))), (3, .ptr 0 1 10 0 0), (4, .ptr 1 1 4 0 0), (7, .own 2 x25.length), (8, i6 (IntKind.i64.wrap (x13 + 1)))] [⟨10, [(TGraph.lit a0)], 0, none⟩, ⟨4, [(TState.lit a1)], 0, none⟩, ⟨2, x25.map TMove.cells, 0, none⟩] (by decide) (by decide) ⟨.free q q, .ptr q, .ptr q, .own q, .free q q, trivial⟩ ⟨⟨_, q, bcBox (all2_free q)⟩, ⟨_, q, bcBox (all2_free q)⟩, ⟨_, q, bcRow (l := x25) sl52 (Nat.le_refl _) q⟩, trivial⟩ ?_
        exact hn1 _ h
      · refine .block<|.seq<|.seq ?_
        obtain ⟨g60_3, h⟩ := h
        refine .reg1 (e1 := listEnv [(2, .rows (a2.map (cInt .i64))), (3, .ptr 0 1 10 0 0), (4, .ptr 1 1 4 0 0), (7, .own 2 x12.length), (8, i6 x13), (25, bo ((rdl a0.Steps x13).From != a1.Node))]) (H1 := [⟨10, [(TGraph.lit a0)], 0, none⟩, ⟨4, [(TState.lit a1)], 0, none⟩, ⟨2, x12.map TMove.cells, 0, none⟩]) q ?_ ?_
        · exact .drawM [(8, 25, bo ((rdl a0.Steps x13).From != a1.Node)), (7, 24, i6 a1.Node), (6, 23, .ptr 1 1 4 0 0), (5, 22, i6 ((rdl a0.Steps x13).From)), (4, 21, .cptr (TStep.lit (rdl a0.Steps x13)) 0), (3, 20, .cptr (TStep.lit (rdl a0.Steps x13)) 0), (2, 19, i6 x13), (1, 18, .rows (a0.Steps.map TStep.cells)), (0, 17, .ptr 0 1 10 0 6)] [] [[], [0], [], [1, 0, 2], [3, 1, 0, 2], [4, 3, 1, 0, 2], [], [6], [5, 4, 3, 1, 0, 2, 7, 6]] (by rfl) (by rfl) (by rfl) (by exact ⟨oP (fun _ => faP fa29_6 q) q, oP (fun _ => ldP q sz24 ag24 q) q, oP (fun _ => mvV q) q, oP (fun _ => ixR (l := a0.Steps) (lit := TStep.lit) sl24 q q (fun _ => q) g60_3.1 g60_3.2) q, oP (fun _ => faC fa65_0 q) q, oP (fun _ => ldC q sz3 ag3 q) q, oP (fun _ => faP fa33_0 q) q, oP (fun _ => ldP q sz3 ag3 q) q, oP (fun _ => neI q q) q, trivial⟩) _ (by exact ⟨.free q q, .ptr q, .ptr q, .own q, .free q q, .free q q, trivial⟩) (by rfl)
        by_cases c24 : (rdl a0.Steps x13).From = a1.Node
        · rw [if_pos c24] at h
          refine .condF q (nf c24)<|.skip<|.seq<|.seq ?_
          obtain ⟨g61_3, h⟩ := h
          refine .reg0 q (.o (faP fa29_6 q)<|.o (ldP q sz24 ag24 q)<|.m q<|.o (ixR (l := a0.Steps) (lit := TStep.lit) sl24 q q (fun _ => q) g61_3.1 g61_3.2)<|.o (faC fa65_2 q)<|.o (ldC q sz63 ag63 q)<|.o (neI q q)<|.nil0) ?_
          by_cases c25 : (rdl a0.Steps x13).Kind = 4
          · rw [if_pos c25] at h
            refine .condF q (nf c25)<|.skip<|.seq<|.reg0 q (.o (asV q)<|.nil0)<|.block<|.keepL [0, 1, 2] [(2, .rows (a2.map (cInt .i64))), (3, .ptr 0 1 10 0 0), (4, .ptr 1 1 4 0 0), (7, .own 2 x12.length), (8, i6 x13), (9, i6 0)] [⟨10, [(TGraph.lit a0)], 0, none⟩, ⟨4, [(TState.lit a1)], 0, none⟩, ⟨2, x12.map TMove.cells, 0, none⟩] (by decide) (by decide) ⟨.free q q, .ptr q, .ptr q, .own q, .free q q, .free q q, trivial⟩ ⟨⟨_, q, bcBox (all2_free q)⟩, ⟨_, q, bcBox (all2_free q)⟩, ⟨_, q, bcRow (l := x12) sl52 (Nat.le_refl _) q⟩, trivial⟩ ?_
            obtain ⟨o2, hL2, h⟩ := h
            refine .loopB (r22_next.b2 a2 x13) (fun (x26, x27) => listEnv [(2, .rows (a2.map (cInt .i64))), (3, .ptr 0 1 10 0 0), (4, .ptr 1 1 4 0 0), (7, .own 2 x26.length), (8, i6 x13), (9, i6 x27)]) (fun (x26, x27) => [⟨10, [(TGraph.lit a0)], 0, none⟩, ⟨4, [(TState.lit a1)], 0, none⟩, ⟨2, x26.map TMove.cells, 0, none⟩]) (fun x28 => listEnv [(2, .rows (a2.map (cInt .i64))), (3, .ptr 0 1 10 0 0), (4, .ptr 1 1 4 0 0), (7, .own 2 x28.length), (8, i6 x13)]) (fun x28 => [⟨10, [(TGraph.lit a0)], 0, none⟩, ⟨4, [(TState.lit a1)], 0, none⟩, ⟨2, x28.map TMove.cells, 0, none⟩]) hL2 (fun r_ => z1 = .ret r_) ?_ ?_ ?_
            · rintro x28 rfl
              try dsimp only [Fin.on] at h
              refine .inBlock<|.keepL [0, 1, 2] [(2, .rows (a2.map (cInt .i64))), (3, .ptr 0 1 10 0 0), (4, .ptr 1 1 4 0 0), (7, .own 2 x28.length), (8, i6 x13)] [⟨10, [(TGraph.lit a0)], 0, none⟩, ⟨4, [(TState.lit a1)], 0, none⟩, ⟨2, x28.map TMove.cells, 0, none⟩] (by decide) (by decide) ⟨.free q q, .ptr q, .ptr q, .own q, .free q q, trivial⟩ ⟨⟨_, q, bcBox (all2_free q)⟩, ⟨_, q, bcBox (all2_free q)⟩, ⟨_, q, bcRow (l := x28) sl52 (Nat.le_refl _) q⟩, trivial⟩ ?_
              exact hJ1 _ h
            · rintro r_ rfl
              exact h
            · rintro ⟨x26, x27⟩ z2 h hn2 hx2 hr2
              dsimp only [r22_next.b2] at h
              refine .seq<|.seq<|.reg0 q (.o (mvV q)<|.o (mvR q)<|.o (lnR (l := a2) sl30 q)<|.o (ltI q q)<|.nil0) ?_
              by_cases c28 : x27 < (a2.length : Int)
              · rw [if_pos c28] at h
                refine .condT q (dt c28)<|.skip<|.seq<|.block ?_
                obtain ⟨g70_4, h⟩ := h
                obtain ⟨g70_8, h⟩ := h
                refine .room 0<|.room 0<|.reg0 q (.o (mvO q)<|.o (mvV q)<|.o (mvR q)<|.o (mvV q)<|.o (ixR (l := a2) (lit := (cInt .i64)) sl30 q q (fun _ => q) g70_4.1 g70_4.2)<|.o (ldC q sz2 ag2 q)<|.o (bldS (cs := [i6 x13, i6 (rdl a2 x27)]) ze54 pl54 q q)<|.op 3 q (bldL (s := 2) (cs := [i6 x13, i6 (rdl a2 x27)]) un52 sz54 ze54 ⟨by decide, q, by decide⟩ q q q q)<|.o (ap1 (l := x26) (TMove.mk x13 (rdl a2 x27)) sl52 q q q (Nat.zero_le _) (elems_own (l := [(TMove.mk x13 (rdl a2 x27))]) q q) g70_8)<|.o (asO q)<|.nil0) ?_
                refine .inBlock<|.reg0 q (.o (mvV q)<|.o (addI q q)<|.o (asV q)<|.nil0)<|.keepL [0, 1, 2] [(2, .rows (a2.map (cInt .i64))), (3, .ptr 0 1 10 0 0), (4, .ptr 1 1 4 0 0), (7, .own 2 ((x26 ++ [(TMove.mk x13 (rdl a2 x27))]).length)), (8, i6 x13), (9, i6 (IntKind.i64.wrap (x27 + 1)))] [⟨10, [(TGraph.lit a0)], 0, none⟩, ⟨4, [(TState.lit a1)], 0, none⟩, ⟨2, (x26 ++ [(TMove.mk x13 (rdl a2 x27))]).map TMove.cells, 0, none⟩] (by decide) (by decide) ⟨.free q q, .ptr q, .ptr q, .own q, .free q q, .free q q, trivial⟩ ⟨⟨_, q, bcBox (all2_free q)⟩, ⟨_, q, bcBox (all2_free q)⟩, ⟨_, q, bcRow (l := (x26 ++ [(TMove.mk x13 (rdl a2 x27))])) sl52 (Nat.le_refl _) q⟩, trivial⟩ ?_
                exact hn2 _ h
              · rw [if_neg c28] at h
                refine .condF q (df c28)<|.exit q<|.keepL [0, 1, 2] [(2, .rows (a2.map (cInt .i64))), (3, .ptr 0 1 10 0 0), (4, .ptr 1 1 4 0 0), (7, .own 2 x26.length), (8, i6 x13)] [⟨10, [(TGraph.lit a0)], 0, none⟩, ⟨4, [(TState.lit a1)], 0, none⟩, ⟨2, x26.map TMove.cells, 0, none⟩] (by decide) (by decide) ⟨.free q q, .ptr q, .ptr q, .own q, .free q q, trivial⟩ ⟨⟨_, q, bcBox (all2_free q)⟩, ⟨_, q, bcBox (all2_free q)⟩, ⟨_, q, bcRow (l := x26) sl52 (Nat.le_refl _) q⟩, trivial⟩ ?_
                exact hx2 _ h
          · rw [if_neg c25] at h
            refine .condT q (nt c25)<|.seq ?_
            obtain ⟨g72_4, h⟩ := h
            refine .room 0<|.room 0<|.reg0 q (.o (mvO q)<|.o (mvV q)<|.o (bldS (cs := [i6 x13, i6 0]) ze54 pl54 q q)<|.op 3 q (bldL (s := 2) (cs := [i6 x13, i6 0]) un52 sz54 ze54 ⟨by decide, q, by decide⟩ q q q q)<|.o (ap1 (l := x12) (TMove.mk x13 0) sl52 q q q (Nat.zero_le _) (elems_own (l := [(TMove.mk x13 0)]) q q) g72_4)<|.o (asO q)<|.nil0) ?_
            refine .exit q<|.keepL [0, 1, 2] [(2, .rows (a2.map (cInt .i64))), (3, .ptr 0 1 10 0 0), (4, .ptr 1 1 4 0 0), (7, .own 2 ((x12 ++ [(TMove.mk x13 0)]).length)), (8, i6 x13)] [⟨10, [(TGraph.lit a0)], 0, none⟩, ⟨4, [(TState.lit a1)], 0, none⟩, ⟨2, (x12 ++ [(TMove.mk x13 0)]).map TMove.cells, 0, none⟩] (by decide) (by decide) ⟨.free q q, .ptr q, .ptr q, .own q, .free q q, trivial⟩ ⟨⟨_, q, bcBox (all2_free q)⟩, ⟨_, q, bcBox (all2_free q)⟩, ⟨_, q, bcRow (l := (x12 ++ [(TMove.mk x13 0)])) sl52 (Nat.le_refl _) q⟩, trivial⟩ ?_
            exact hJ1 _ h
        · rw [if_neg c24] at h
          refine .condT q (nt c24)<|.exit q<|.keepL [0, 1, 2] [(2, .rows (a2.map (cInt .i64))), (3, .ptr 0 1 10 0 0), (4, .ptr 1 1 4 0 0), (7, .own 2 x12.length), (8, i6 x13)] [⟨10, [(TGraph.lit a0)], 0, none⟩, ⟨4, [(TState.lit a1)], 0, none⟩, ⟨2, x12.map TMove.cells, 0, none⟩] (by decide) (by decide) ⟨.free q q, .ptr q, .ptr q, .own q, .free q q, trivial⟩ ⟨⟨_, q, bcBox (all2_free q)⟩, ⟨_, q, bcBox (all2_free q)⟩, ⟨_, q, bcRow (l := x12) sl52 (Nat.le_refl _) q⟩, trivial⟩ ?_
          exact hJ1 _ h
    · rw [if_neg c19] at h
      refine .condF q (df c19)<|.exit q<|.keepL [0, 1, 2] [(3, .ptr 0 1 10 0 0), (4, .ptr 1 1 4 0 0), (7, .own 2 x12.length)] [⟨10, [(TGraph.lit a0)], 0, none⟩, ⟨4, [(TState.lit a1)], 0, none⟩, ⟨2, x12.map TMove.cells, 0, none⟩] (by decide) (by decide) ⟨.ptr q, .ptr q, .own q, trivial⟩ ⟨⟨_, q, bcBox (all2_free q)⟩, ⟨_, q, bcBox (all2_free q)⟩, ⟨_, q, bcRow (l := x12) sl52 (Nat.le_refl _) q⟩, trivial⟩ ?_
      exact hx1 _ h
def r22_mark.f (a0 : Int) (a1 : Int) (a2 : Bool) (r : Int) : Prop :=
  if a2 = true then ((((0 : Int) ≤ (IntKind.u64.wrap a1))) ∧ r = (bitOp .or .u64 a0 (shlI .u64 1 (IntKind.u64.wrap a1)))) else ((((0 : Int) ≤ (IntKind.u64.wrap a1))) ∧ r = (bitOp .andNot .u64 a0 (shlI .u64 1 (IntKind.u64.wrap a1))))
theorem r22_mark.D {a0 a1 a2 r} (h : r22_mark.f a0 a1 a2 r) : D Tryz.prog X (.callH 78 [.val (.int .u64 a0), .val (.int .i64 a1), .val (.bool a2)] [] (.val (.int .u64 r)) []) := by
  unfold r22_mark.f at h
  refine .enter 18 0 fn78 q q q<|.seq<|.reg0 q (.o (asV q)<|.nil0)<|.seq<|.seq<|.reg0 q (.o (mvV q)<|.nil0) ?_
  by_cases c1 : a2 = true
  · rw [if_pos c1] at h
    refine .condT q c1<|.seq ?_
    obtain ⟨g3_3, h⟩ := h
    refine .reg0 q (.m q<|.m q<|.o (convI un3 un68 q)<|.o (shl_ q q g3_3)<|.o (orI q q)<|.a q<|.nil0) ?_
    replace h := h.symm
    subst h
    refine .kf [(6, u6 (bitOp .or .u64 a0 (shlI .u64 1 (IntKind.u64.wrap a1))))] q q ?_
    exact .ret q
  · rw [if_neg c1] at h
    refine .condF q (nb c1)<|.skip<|.seq ?_
    obtain ⟨g4_3, h⟩ := h
    refine .reg0 q (.m q<|.m q<|.o (convI un3 un68 q)<|.o (shl_ q q g4_3)<|.o (andNotI q q)<|.a q<|.nil0) ?_
    replace h := h.symm
    subst h
    refine .kf [(6, u6 (bitOp .andNot .u64 a0 (shlI .u64 1 (IntKind.u64.wrap a1))))] q q ?_
    exact .ret q
end Go.RM.Tryz
