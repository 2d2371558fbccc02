/- GF, for the statement FramesStates: what it needs, no more. -/
import Derived.Test.YtcogffeinodfaaaGreatDoorZFramesStatesGE
set_option linter.unusedVariables false
set_option maxRecDepth 8000
set_option maxHeartbeats 4000000
namespace Go.RM.Tryz
open Go.RM Go.Proofs
variable {X : FuncId → List PV → Heap → PV → Heap → Prop}
def r21_Check.j1 (x4 : Int) : Int → (Rnd ((Int × Int)) Int Int) → Prop := fun x9 z1 => z1 = .next (x9, (IntKind.i64.wrap (x4 + 1)))
def r21_Check.b1 (a0 : TGraph) : (Int × Int) → Rnd ((Int × Int)) Int Int → Prop := fun (x3, x4) z1 => if x4 < (a0.Steps.length : Int) then (((InR x4 a0.Steps.length)) ∧ ∃ t55_6 : Bool, (r21_step.f a0 (rdl a0.Steps x4) t55_6) ∧ if t55_6 = true then (((InR x4 a0.Steps.length)) ∧ if (rdl a0.Steps x4).Kind = 8 then (((InR x4 a0.Steps.length)) ∧ if (rdl a0.Steps x4).Site = x3 then (r21_Check.j1 x4 (IntKind.i64.wrap (x3 + 1)) z1) else (z1 = .ret 213)) else (r21_Check.j1 x4 x3 z1)) else (z1 = .ret 213)) else (z1 = .exit x3)
def r21_Check.b2 (a0 : TGraph) : Int → Rnd Int Unit Int → Prop := fun x10 z2 => if x10 < (a0.Points.length : Int) then (((InR x10 a0.Points.length)) ∧ ∃ t76_9 : Bool, (r21_in.f ((rdl a0.Points x10).Node) (a0.Of.length : Int) t76_9) ∧ if t76_9 = true then (z2 = .next (IntKind.i64.wrap (x10 + 1))) else (z2 = .ret 213)) else (z2 = .exit ())
def r21_Check.b3 (a0 : TGraph) : Int → Rnd Int Unit Int → Prop := fun x11 z3 => if x11 < (a0.Sinks.length : Int) then (((InR x11 a0.Sinks.length)) ∧ ∃ t89_9 : Bool, (r21_in.f ((rdl a0.Sinks x11).Node) (a0.Of.length : Int) t89_9) ∧ ((t89_9 = true) → (InR x11 a0.Sinks.length)) ∧ ∃ t89_21 : Bool, ((t89_9 = true) → r21_in.f ((rdl a0.Sinks x11).X) (a0.Vars.length : Int) t89_21) ∧ if ((!t89_9) || (!t89_21)) = true then (z3 = .ret 213) else (z3 = .next (IntKind.i64.wrap (x11 + 1)))) else (z3 = .exit ())
def r21_Check.f (a0 : TGraph) (r : Int) : Prop :=
  ∃ t2_1 : Bool, (r21_heads.f a0 t2_1) ∧ if t2_1 = true then (∃ o1 : Fin Int Int, Loop (r21_Check.b1 a0) (0, 0) o1 ∧ o1.on (fun x7 => if x7 = (a0.Sites.length : Int) then (∃ o2 : Fin Unit Int, Loop (r21_Check.b2 a0) 0 o2 ∧ o2.on (fun _ => ∃ o3 : Fin Unit Int, Loop (r21_Check.b3 a0) 0 o3 ∧ o3.on (fun _ => r = 0) (fun r_ => r = r_)) (fun r_ => r = r_)) else (r = 213)) (fun r_ => r = r_)) else (r = 213)
abbrev GF_A0 : List (List Nat) := [[], [0], [], [1, 0, 2], [3, 1, 0, 2], [4, 3, 1, 0, 2], [], [6], [7, 6], [5, 4, 3, 1, 0, 2, 8, 7, 6], [9, 5, 4, 3, 1, 0, 2, 8, 7, 6], [10, 9, 5, 4, 3, 1, 0, 2, 8, 7, 6], [11, 10, 9, 5, 4, 3, 1, 0, 2, 8, 7, 6], [12, 11, 10, 9, 5, 4, 3, 1, 0, 2, 8, 7, 6], [11, 10, 9, 5, 4, 3, 1, 0, 2, 8, 7, 6], [13, 12, 11, 10, 9, 5, 4, 3, 1, 0, 2, 8, 7, 6, 14], [15, 13, 12, 11, 10, 9, 5, 4, 3, 1, 0, 2, 8, 7, 6, 14], [16, 15, 13, 12, 11, 10, 9, 5, 4, 3, 1, 0, 2, 8, 7, 6, 14], [11, 10, 9, 5, 4, 3, 1, 0, 2, 8, 7, 6], [18, 11, 10, 9, 5, 4, 3, 1, 0, 2, 8, 7, 6], [19, 18, 11, 10, 9, 5, 4, 3, 1, 0, 2, 8, 7, 6], [17, 16, 15, 13, 12, 11, 10, 9, 5, 4, 3, 1, 0, 2, 8, 7, 6, 14, 20, 19, 18], [21, 17, 16, 15, 13, 12, 11, 10, 9, 5, 4, 3, 1, 0, 2, 8, 7, 6, 14, 20, 19, 18], [11, 10, 9, 5, 4, 3, 1, 0, 2, 8, 7, 6, 22, 21, 17, 16, 15, 13, 12, 14, 20, 19, 18]]
abbrev GF_c0 : List PV := [i6 0, nul, u6 0, nul]
theorem r21_Check.D {a0 r} (h : r21_Check.f a0 r) : D Tryz.prog X (.callH 26 [.agg (TGraph.lit a0)] [] (.val (.int .i64 r)) []) := by
  unfold r21_Check.f at h
  refine .enter 96 0 fn26 rfl rfl rfl <| .seq <| .room 0 <| .reg0 rfl (.op 0 rfl (bxP (s := 10) (cs := (TGraph.lit a0)) rfl ⟨rfl, by decide, rfl⟩ rfl) <| .op 0 rfl (asV rfl) <| .nil0) <| .seq <| .seq ?_
  obtain ⟨t2_1, g2_1, h⟩ := h
  refine .reg0 rfl (.o (ldG rfl sz29 ag29 rfl) <| .c rfl go48 rfl rfl rfl (r21_heads.D g2_1) <| .o (notB rfl) <| .nil0) ?_
  by_cases c1 : t2_1 = true
  · rw [if_pos c1] at h
    refine .condF rfl (bnotF c1) <| .skip <| .seq <| .reg0 rfl (.op 0 rfl (asV rfl) <| .nil0) <| .seq <| .seq <| .reg0 rfl (.op 0 rfl (asV rfl) <| .nil0) <| .block <| .keepL [0] [(1, .ptr 0 1 10 0 0), (3, i6 0), (4, i6 0)] [⟨10, [(TGraph.lit a0)], 0, none⟩] (by decide) (by decide) ⟨.ptr rfl, .free rfl rfl, .free rfl rfl, trivial⟩ ⟨⟨_, rfl, bcBox (all2_free rfl)⟩, trivial⟩ ?_
    obtain ⟨o1, hL1, h⟩ := h
    refine .loopB (r21_Check.b1 a0) (fun (x3, x4) => listEnv [(1, .ptr 0 1 10 0 0), (3, i6 x3), (4, i6 x4)]) (fun (x3, x4) => [⟨10, [(TGraph.lit a0)], 0, none⟩]) (fun x7 => listEnv [(1, .ptr 0 1 10 0 0), (3, i6 x7)]) (fun x7 => [⟨10, [(TGraph.lit a0)], 0, none⟩]) hL1 (fun r_ => r = r_) ?_ ?_ ?_
    · rintro x7 rfl
      try dsimp only [Fin.on] at h
      refine .seq <| .seq <| .reg0 rfl (.op 0 rfl (mvV rfl) <| .op 0 rfl (faP fa29_7 rfl) <| .op 0 rfl (ldP rfl sz25 ag25 rfl) <| .op 0 rfl (lnR (l := a0.Sites) sl25 rfl) <| .op 0 rfl (neI rfl rfl) <| .nil0) ?_
      by_cases c35 : x7 = (a0.Sites.length : Int)
      · rw [if_pos c35] at h
        refine .condF rfl (nf c35) <| .skip <| .seq <| .seq <| .reg0 rfl (.op 0 rfl (asV rfl) <| .nil0) <| .block <| .keepL [0] [(1, .ptr 0 1 10 0 0), (5, i6 0)] [⟨10, [(TGraph.lit a0)], 0, none⟩] (by decide) (by decide) ⟨.ptr rfl, .free rfl rfl, trivial⟩ ⟨⟨_, rfl, bcBox (all2_free rfl)⟩, trivial⟩ ?_
        obtain ⟨o2, hL2, h⟩ := h
        refine .loopB (r21_Check.b2 a0) (fun x10 => listEnv [(1, .ptr 0 1 10 0 0), (5, i6 x10)]) (fun x10 => [⟨10, [(TGraph.lit a0)], 0, none⟩]) (fun _ => listEnv [(1, .ptr 0 1 10 0 0)]) (fun _ => [⟨10, [(TGraph.lit a0)], 0, none⟩]) hL2 (fun r_ => r = r_) ?_ ?_ ?_
        · rintro ⟨⟩ rfl
          try dsimp only [Fin.on] at h
          refine .seq <| .seq <| .reg0 rfl (.op 0 rfl (asV rfl) <| .nil0) <| .block <| .keepL [0] [(1, .ptr 0 1 10 0 0), (6, i6 0)] [⟨10, [(TGraph.lit a0)], 0, none⟩] (by decide) (by decide) ⟨.ptr rfl, .free rfl rfl, trivial⟩ ⟨⟨_, rfl, bcBox (all2_free rfl)⟩, trivial⟩ ?_
          obtain ⟨o3, hL3, h⟩ := h
          refine .loopB (r21_Check.b3 a0) (fun x11 => listEnv [(1, .ptr 0 1 10 0 0), (6, i6 x11)]) (fun x11 => [⟨10, [(TGraph.lit a0)], 0, none⟩]) (fun _ => listEnv []) (fun _ => []) hL3 (fun r_ => r = r_) ?_ ?_ ?_
          · rintro ⟨⟩ rfl
            try dsimp only [Fin.on] at h
            refine .seq <| .reg0 rfl (.op 0 rfl (asV rfl) <| .nil0) ?_
            replace h := h.symm
            subst h
            refine .kf [(2, i6 0)] rfl rfl ?_
            exact .ret rfl
          · rintro r_ rfl
            exact h
          · rintro x11 z3 h hn3 hx3 hr3
            dsimp only [r21_Check.b3] at h
            refine .seq <| .seq <| .reg0 rfl (.op 0 rfl (mvV rfl) <| .op 0 rfl (faP fa29_9 rfl) <| .op 0 rfl (ldP rfl sz27 ag27 rfl) <| .op 0 rfl (lnR (l := a0.Sinks) sl27 rfl) <| .op 0 rfl (ltI rfl rfl) <| .nil0) ?_
            by_cases c48 : x11 < (a0.Sinks.length : Int)
            · rw [if_pos c48] at h
              refine .condT rfl (dt c48) <| .skip <| .seq <| .block <| .seq ?_
              obtain ⟨g89_3, h⟩ := h
              obtain ⟨t89_9, g89_9, h⟩ := h
              obtain ⟨g89_15, h⟩ := h
              obtain ⟨t89_21, g89_21, h⟩ := h
              refine .reg1 (e1 := listEnv [(1, .ptr 0 1 10 0 0), (6, i6 x11), (95, bo ((!t89_9) || (!t89_21)))]) (H1 := [⟨10, [(TGraph.lit a0)], 0, none⟩]) rfl ?_ ?_
              · by_cases c49 : t89_9 = true
                · exact .drawM [(23, 95, bo (!t89_21)), (22, 94, bo (!t89_21)), (21, 93, bo t89_21), (20, 92, i6 (a0.Vars.length : Int)), (19, 91, .rows (a0.Vars.map cStr)), (18, 90, .ptr 0 1 10 0 0), (17, 89, i6 ((rdl a0.Sinks x11).X)), (16, 88, .cptr (TSink.lit (rdl a0.Sinks x11)) 0), (15, 87, .cptr (TSink.lit (rdl a0.Sinks x11)) 0), (14, 86, i6 x11), (13, 85, .rows (a0.Sinks.map TSink.cells)), (12, 84, .ptr 0 1 10 0 9), (11, 83, bo (!t89_9)), (10, 82, bo (!t89_9)), (9, 81, bo t89_9), (8, 80, i6 (a0.Of.length : Int)), (7, 79, .rows (a0.Of.map (cInt .i64))), (6, 78, .ptr 0 1 10 0 5), (5, 77, i6 ((rdl a0.Sinks x11).Node)), (4, 76, .cptr (TSink.lit (rdl a0.Sinks x11)) 1), (3, 75, .cptr (TSink.lit (rdl a0.Sinks x11)) 0), (2, 74, i6 x11), (1, 73, .rows (a0.Sinks.map TSink.cells)), (0, 72, .ptr 0 1 10 0 9)] [] GF_A0 (by rfl) (by rfl) (by rfl) (by exact ⟨oP (fun _ => faP fa29_9 rfl) rfl, oP (fun _ => ldP rfl sz27 ag27 rfl) rfl, oP (fun _ => mvV rfl) rfl, oP (fun _ => ixR (l := a0.Sinks) (lit := TSink.lit) sl27 rfl rfl (fun _ => rfl) g89_3.1 g89_3.2) rfl, oP (fun _ => faC fa67_1 rfl) rfl, oP (fun _ => ldC rfl sz3 ag3 rfl) rfl, oP (fun _ => faP fa29_5 rfl) rfl, oP (fun _ => ldP rfl sz23 ag23 rfl) rfl, oP (fun _ => lnR (l := a0.Of) sl23 rfl) rfl, fun S hS hD hn => .oneI hS hD hn rfl rfl (callee_of rfl go50 rfl) (.pure rfl rfl (r21_in.D g89_9)) rfl rfl rfl, oP (fun _ => notB rfl) rfl, oP (fun _ => mvV rfl) rfl, oG rfl (fun _ => rfl) (bnotF c49) (fun _ => faP fa29_9 rfl) rfl, oG rfl (fun _ => rfl) (bnotF c49) (fun _ => ldP rfl sz27 ag27 rfl) rfl, oG rfl (fun _ => rfl) (bnotF c49) (fun _ => mvV rfl) rfl, oG rfl (fun _ => rfl) (bnotF c49) (fun _ => ixR (l := a0.Sinks) (lit := TSink.lit) sl27 rfl rfl (fun _ => rfl) (g89_15 c49).1 (g89_15 c49).2) rfl, oG rfl (fun _ => rfl) (bnotF c49) (fun _ => faC fa67_0 rfl) rfl, oG rfl (fun _ => rfl) (bnotF c49) (fun _ => ldC rfl sz3 ag3 rfl) rfl, oG rfl (fun _ => rfl) (bnotF c49) (fun _ => faP fa29_0 rfl) rfl, oG rfl (fun _ => rfl) (bnotF c49) (fun _ => ldP rfl sz22 ag22 rfl) rfl, oG rfl (fun _ => rfl) (bnotF c49) (fun _ => lnR (l := a0.Vars) sl22 rfl) rfl, fun S hS hD hn => .oneI hS hD hn (gT rfl rfl rfl (bnotF c49)) rfl (callee_of rfl go50 rfl) (.pure rfl rfl (r21_in.D (g89_21 c49))) rfl rfl rfl, oG rfl (fun _ => rfl) (bnotF c49) (fun _ => notB rfl) rfl, oP (fun _ => pkFV rfl (bnotF c49) rfl) rfl, trivial⟩) _ (by exact ⟨.ptr rfl, .free rfl rfl, cB rfl (mOrF (bnotF c49) rfl), trivial⟩) (by rfl)
                · exact .drawM [(23, 95, bo true), (22, 94, und), (21, 93, und), (20, 92, und), (19, 91, und), (18, 90, und), (17, 89, und), (16, 88, und), (15, 87, und), (14, 86, und), (13, 85, und), (12, 84, und), (11, 83, bo (!t89_9)), (10, 82, bo (!t89_9)), (9, 81, bo t89_9), (8, 80, i6 (a0.Of.length : Int)), (7, 79, .rows (a0.Of.map (cInt .i64))), (6, 78, .ptr 0 1 10 0 5), (5, 77, i6 ((rdl a0.Sinks x11).Node)), (4, 76, .cptr (TSink.lit (rdl a0.Sinks x11)) 1), (3, 75, .cptr (TSink.lit (rdl a0.Sinks x11)) 0), (2, 74, i6 x11), (1, 73, .rows (a0.Sinks.map TSink.cells)), (0, 72, .ptr 0 1 10 0 9)] [] GF_A0 (by rfl) (by rfl) (by rfl) (by exact ⟨oP (fun _ => faP fa29_9 rfl) rfl, oP (fun _ => ldP rfl sz27 ag27 rfl) rfl, oP (fun _ => mvV rfl) rfl, oP (fun _ => ixR (l := a0.Sinks) (lit := TSink.lit) sl27 rfl rfl (fun _ => rfl) g89_3.1 g89_3.2) rfl, oP (fun _ => faC fa67_1 rfl) rfl, oP (fun _ => ldC rfl sz3 ag3 rfl) rfl, oP (fun _ => faP fa29_5 rfl) rfl, oP (fun _ => ldP rfl sz23 ag23 rfl) rfl, oP (fun _ => lnR (l := a0.Of) sl23 rfl) rfl, fun S hS hD hn => .oneI hS hD hn rfl rfl (callee_of rfl go50 rfl) (.pure rfl rfl (r21_in.D g89_9)) rfl rfl rfl, oP (fun _ => notB rfl) rfl, oP (fun _ => mvV rfl) rfl, oN rfl (fun _ => rfl) (bnotT (nb c49)) rfl, oN rfl (fun _ => rfl) (bnotT (nb c49)) rfl, oN rfl (fun _ => rfl) (bnotT (nb c49)) rfl, oN rfl (fun _ => rfl) (bnotT (nb c49)) rfl, oN rfl (fun _ => rfl) (bnotT (nb c49)) rfl, oN rfl (fun _ => rfl) (bnotT (nb c49)) rfl, oN rfl (fun _ => rfl) (bnotT (nb c49)) rfl, oN rfl (fun _ => rfl) (bnotT (nb c49)) rfl, oN rfl (fun _ => rfl) (bnotT (nb c49)) rfl, oN rfl (fun _ => rfl) (bnotT (nb c49)) rfl, oN rfl (fun _ => rfl) (bnotT (nb c49)) rfl, oP (fun _ => pkTV rfl (bnotT (nb c49)) rfl) rfl, trivial⟩) _ (by exact ⟨.ptr rfl, .free rfl rfl, cB rfl (mOrT (bnotT (nb c49))), trivial⟩) (by rfl)
              by_cases c50 : ((!t89_9) || (!t89_21)) = true
              · rw [if_pos c50] at h
                refine .condT rfl c50 <| .seq <| .reg0 rfl (.op 0 rfl (asV rfl) <| .nil0) ?_
                have q24 := hr3 _ h
                replace q24 := q24.symm
                subst q24
                refine .kf [(2, i6 213)] rfl rfl ?_
                exact .ret rfl
              · rw [if_neg c50] at h
                refine .condF rfl (nb c50) <| .skip <| .inBlock <| .reg0 rfl (.op 0 rfl (mvV rfl) <| .op 0 rfl (addI rfl rfl) <| .op 0 rfl (asV rfl) <| .nil0) <| .keepL [0] [(1, .ptr 0 1 10 0 0), (6, i6 (IntKind.i64.wrap (x11 + 1)))] [⟨10, [(TGraph.lit a0)], 0, none⟩] (by decide) (by decide) ⟨.ptr rfl, .free rfl rfl, trivial⟩ ⟨⟨_, rfl, bcBox (all2_free rfl)⟩, trivial⟩ ?_
                exact hn3 _ h
            · rw [if_neg c48] at h
              refine .condF rfl (df c48) <| .exit rfl <| .keepL [] [] [] (by decide) (by decide) trivial trivial ?_
              exact hx3 _ h
        · rintro r_ rfl
          exact h
        · rintro x10 z2 h hn2 hx2 hr2
          dsimp only [r21_Check.b2] at h
          refine .seq <| .seq <| .reg0 rfl (.op 0 rfl (mvV rfl) <| .op 0 rfl (faP fa29_8 rfl) <| .op 0 rfl (ldP rfl sz26 ag26 rfl) <| .op 0 rfl (lnR (l := a0.Points) sl26 rfl) <| .op 0 rfl (ltI rfl rfl) <| .nil0) ?_
          by_cases c40 : x10 < (a0.Points.length : Int)
          · rw [if_pos c40] at h
            refine .condT rfl (dt c40) <| .skip <| .seq <| .block <| .seq ?_
            obtain ⟨g76_3, h⟩ := h
            obtain ⟨t76_9, g76_9, h⟩ := h
            refine .reg1 (e1 := listEnv [(1, .ptr 0 1 10 0 0), (5, i6 x10), (64, bo (!t76_9))]) (H1 := [⟨10, [(TGraph.lit a0)], 0, none⟩]) rfl ?_ ?_
            · exact .drawM [(10, 64, bo (!t76_9)), (9, 63, bo t76_9), (8, 62, i6 (a0.Of.length : Int)), (7, 61, .rows (a0.Of.map (cInt .i64))), (6, 60, .ptr 0 1 10 0 5), (5, 59, i6 ((rdl a0.Points x10).Node)), (4, 58, .cptr (TPoint.lit (rdl a0.Points x10)) 1), (3, 57, .cptr (TPoint.lit (rdl a0.Points x10)) 0), (2, 56, i6 x10), (1, 55, .rows (a0.Points.map TPoint.cells)), (0, 54, .ptr 0 1 10 0 8)] [] [[], [0], [], [1, 0, 2], [3, 1, 0, 2], [4, 3, 1, 0, 2], [], [6], [7, 6], [5, 4, 3, 1, 0, 2, 8, 7, 6], [9, 5, 4, 3, 1, 0, 2, 8, 7, 6]] (by rfl) (by rfl) (by rfl) (by exact ⟨oP (fun _ => faP fa29_8 rfl) rfl, oP (fun _ => ldP rfl sz26 ag26 rfl) rfl, oP (fun _ => mvV rfl) rfl, oP (fun _ => ixR (l := a0.Points) (lit := TPoint.lit) sl26 rfl rfl (fun _ => rfl) g76_3.1 g76_3.2) rfl, oP (fun _ => faC fa95_1 rfl) rfl, oP (fun _ => ldC rfl sz3 ag3 rfl) rfl, oP (fun _ => faP fa29_5 rfl) rfl, oP (fun _ => ldP rfl sz23 ag23 rfl) rfl, oP (fun _ => lnR (l := a0.Of) sl23 rfl) rfl, fun S hS hD hn => .oneI hS hD hn rfl rfl (callee_of rfl go50 rfl) (.pure rfl rfl (r21_in.D g76_9)) rfl rfl rfl, oP (fun _ => notB rfl) rfl, trivial⟩) _ (by exact ⟨.ptr rfl, .free rfl rfl, .free rfl rfl, trivial⟩) (by rfl)
            by_cases c41 : t76_9 = true
            · rw [if_pos c41] at h
              refine .condF rfl (bnotF c41) <| .skip <| .inBlock <| .reg0 rfl (.op 0 rfl (mvV rfl) <| .op 0 rfl (addI rfl rfl) <| .op 0 rfl (asV rfl) <| .nil0) <| .keepL [0] [(1, .ptr 0 1 10 0 0), (5, i6 (IntKind.i64.wrap (x10 + 1)))] [⟨10, [(TGraph.lit a0)], 0, none⟩] (by decide) (by decide) ⟨.ptr rfl, .free rfl rfl, trivial⟩ ⟨⟨_, rfl, bcBox (all2_free rfl)⟩, trivial⟩ ?_
              exact hn2 _ h
            · rw [if_neg c41] at h
              refine .condT rfl (bnotT (nb c41)) <| .seq <| .reg0 rfl (.op 0 rfl (asV rfl) <| .nil0) ?_
              have q21 := hr2 _ h
              replace q21 := q21.symm
              subst q21
              refine .kf [(2, i6 213)] rfl rfl ?_
              exact .ret rfl
          · rw [if_neg c40] at h
            refine .condF rfl (df c40) <| .exit rfl <| .keepL [0] [(1, .ptr 0 1 10 0 0)] [⟨10, [(TGraph.lit a0)], 0, none⟩] (by decide) (by decide) ⟨.ptr rfl, trivial⟩ ⟨⟨_, rfl, bcBox (all2_free rfl)⟩, trivial⟩ ?_
            exact hx2 _ h
      · rw [if_neg c35] at h
        refine .condT rfl (nt c35) <| .seq <| .reg0 rfl (.op 0 rfl (asV rfl) <| .nil0) ?_
        replace h := h.symm
        subst h
        refine .kf [(2, i6 213)] rfl rfl ?_
        exact .ret rfl
    · rintro r_ rfl
      exact h
    · rintro ⟨x3, x4⟩ z1 h hn1 hx1 hr1
      dsimp only [r21_Check.b1] at h
      refine .seq <| .seq <| .reg0 rfl (.op 0 rfl (mvV rfl) <| .op 0 rfl (faP fa29_6 rfl) <| .op 0 rfl (ldP rfl sz24 ag24 rfl) <| .op 0 rfl (lnR (l := a0.Steps) sl24 rfl) <| .op 0 rfl (ltI rfl rfl) <| .nil0) ?_
      by_cases c24 : x4 < (a0.Steps.length : Int)
      · rw [if_pos c24] at h
        refine .condT rfl (dt c24) <| .skip <| .seq <| .block <| .seq <| .seq ?_
        obtain ⟨g55_4, h⟩ := h
        obtain ⟨t55_6, g55_6, h⟩ := h
        refine .reg1 (e1 := listEnv [(1, .ptr 0 1 10 0 0), (3, i6 x3), (4, i6 x4), (24, bo (!t55_6))]) (H1 := [⟨10, [(TGraph.lit a0)], 0, none⟩]) rfl ?_ ?_
        · exact .drawM [(7, 24, bo (!t55_6)), (6, 23, bo t55_6), (5, 22, .agg (TStep.lit (rdl a0.Steps x4))), (4, 21, .cptr (TStep.lit (rdl a0.Steps x4)) 0), (3, 20, i6 x4), (2, 19, .rows (a0.Steps.map TStep.cells)), (1, 18, .ptr 0 1 10 0 6), (0, 17, .agg (TGraph.lit a0))] [] [[], [], [1], [], [2, 1, 3], [4, 2, 1, 3], [0, 5, 4, 2, 1, 3], [6, 0, 5, 4, 2, 1, 3]] (by rfl) (by rfl) (by rfl) (by exact ⟨oP (fun _ => ldG rfl sz29 ag29 rfl) rfl, oP (fun _ => faP fa29_6 rfl) rfl, oP (fun _ => ldP rfl sz24 ag24 rfl) rfl, oP (fun _ => mvV rfl) rfl, oP (fun _ => ixR (l := a0.Steps) (lit := TStep.lit) sl24 rfl rfl (fun _ => rfl) g55_4.1 g55_4.2) rfl, oP (fun _ => ldCG rfl sz65 ag65 rfl) rfl, fun S hS hD hn => .oneI hS hD hn rfl rfl (callee_of rfl go49 rfl) (.pure rfl rfl (r21_step.D g55_6)) rfl rfl rfl, oP (fun _ => notB rfl) rfl, trivial⟩) _ (by exact ⟨.ptr rfl, .free rfl rfl, .free rfl rfl, .free rfl rfl, trivial⟩) (by rfl)
        by_cases c30 : t55_6 = true
        · rw [if_pos c30] at h
          refine .condF rfl (bnotF c30) <| .skip <| .seq ?_
          obtain ⟨g56_3, h⟩ := h
          refine .reg0 rfl (.o (faP fa29_6 rfl) <| .o (ldP rfl sz24 ag24 rfl) <| .m rfl <| .o (ixR (l := a0.Steps) (lit := TStep.lit) sl24 rfl rfl (fun _ => rfl) g56_3.1 g56_3.2) <| .o (faC fa65_2 rfl) <| .o (ldC rfl sz63 ag63 rfl) <| .o (eqI rfl rfl) <| .nil0) ?_
          refine .consJ (fun s_ => r21_Check.j1 x4 s_ z1) (fun x9 => listEnv [(1, .ptr 0 1 10 0 0), (3, i6 x9), (4, i6 x4)]) (fun x9 => [⟨10, [(TGraph.lit a0)], 0, none⟩]) ?_ fun hJ1 => ?_
          · rintro x9 h
            unfold r21_Check.j1 at h
            try dsimp only at h
            refine .inBlock <| .reg0 rfl (.op 0 rfl (mvV rfl) <| .op 0 rfl (addI rfl rfl) <| .op 0 rfl (asV rfl) <| .nil0) <| .keepL [0] [(1, .ptr 0 1 10 0 0), (3, i6 x9), (4, i6 (IntKind.i64.wrap (x4 + 1)))] [⟨10, [(TGraph.lit a0)], 0, none⟩] (by decide) (by decide) ⟨.ptr rfl, .free rfl rfl, .free rfl rfl, trivial⟩ ⟨⟨_, rfl, bcBox (all2_free rfl)⟩, trivial⟩ ?_
            exact hn1 _ h
          · by_cases c33 : (rdl a0.Steps x4).Kind = 8
            · rw [if_pos c33] at h
              refine .condT rfl (bt c33) <| .seq <| .seq ?_
              obtain ⟨g61_3, h⟩ := h
              refine .reg0 rfl (.o (faP fa29_6 rfl) <| .o (ldP rfl sz24 ag24 rfl) <| .m rfl <| .o (ixR (l := a0.Steps) (lit := TStep.lit) sl24 rfl rfl (fun _ => rfl) g61_3.1 g61_3.2) <| .o (faC fa65_6 rfl) <| .o (ldC rfl sz3 ag3 rfl) <| .m rfl <| .o (neI rfl rfl) <| .nil0) ?_
              by_cases c34 : (rdl a0.Steps x4).Site = x3
              · rw [if_pos c34] at h
                refine .condF rfl (nf c34) <| .skip <| .reg0 rfl (.op 0 rfl (mvV rfl) <| .op 0 rfl (addI rfl rfl) <| .op 0 rfl (asV rfl) <| .nil0) <| .keepL [0] [(1, .ptr 0 1 10 0 0), (3, i6 (IntKind.i64.wrap (x3 + 1))), (4, i6 x4)] [⟨10, [(TGraph.lit a0)], 0, none⟩] (by decide) (by decide) ⟨.ptr rfl, .free rfl rfl, .free rfl rfl, trivial⟩ ⟨⟨_, rfl, bcBox (all2_free rfl)⟩, trivial⟩ ?_
                exact hJ1 _ h
              · rw [if_neg c34] at h
                refine .condT rfl (nt c34) <| .seq <| .reg0 rfl (.op 0 rfl (asV rfl) <| .nil0) ?_
                have q17 := hr1 _ h
                replace q17 := q17.symm
                subst q17
                refine .kf [(2, i6 213)] rfl rfl ?_
                exact .ret rfl
            · rw [if_neg c33] at h
              refine .condF rfl (bn c33) <| .skip <| .keepL [0] [(1, .ptr 0 1 10 0 0), (3, i6 x3), (4, i6 x4)] [⟨10, [(TGraph.lit a0)], 0, none⟩] (by decide) (by decide) ⟨.ptr rfl, .free rfl rfl, .free rfl rfl, trivial⟩ ⟨⟨_, rfl, bcBox (all2_free rfl)⟩, trivial⟩ ?_
              exact hJ1 _ h
        · rw [if_neg c30] at h
          refine .condT rfl (bnotT (nb c30)) <| .seq <| .reg0 rfl (.op 0 rfl (asV rfl) <| .nil0) ?_
          have q18 := hr1 _ h
          replace q18 := q18.symm
          subst q18
          refine .kf [(2, i6 213)] rfl rfl ?_
          exact .ret rfl
      · rw [if_neg c24] at h
        refine .condF rfl (df c24) <| .exit rfl <| .keepL [0] [(1, .ptr 0 1 10 0 0), (3, i6 x3)] [⟨10, [(TGraph.lit a0)], 0, none⟩] (by decide) (by decide) ⟨.ptr rfl, .free rfl rfl, trivial⟩ ⟨⟨_, rfl, bcBox (all2_free rfl)⟩, trivial⟩ ?_
        exact hx1 _ h
  · rw [if_neg c1] at h
    refine .condT rfl (bnotT (nb c1)) <| .seq <| .reg0 rfl (.op 0 rfl (asV rfl) <| .nil0) ?_
    replace h := h.symm
    subst h
    refine .kf [(2, i6 213)] rfl rfl ?_
    exact .ret rfl
def r22_Start.f (a0 : TGraph) (r : TState × Int) : Prop :=
  ∃ t2_1 : Int, (r21_Check.f a0 t2_1) ∧ if t2_1 = 0 then (((InR a0.Main a0.Entry.length)) ∧ (((0 : Int) ≤ (a0.Vars.length : Int) ∧ Fits (a0.Vars.length : Int) 8)) ∧ r = ((TState.mk (rdl a0.Entry a0.Main) (List.replicate (Int.toNat (a0.Vars.length : Int)) (0 : Int)) 0 []), 0)) else (r = ((TState.mk 0 [] 0 []), t2_1))
theorem r22_Start.D {a0 r} (h : r22_Start.f a0 r) : D Tryz.prog X (.callH 9 [.agg (TGraph.lit a0)] [] (.tuple [.agg (TState.lit r.1), .val (.int .i64 r.2)]) []) := by
  unfold r22_Start.f at h
  refine .enter 22 0 fn9 rfl rfl rfl <| .seq <| .room 0 <| .room 0 <| .reg0 rfl (.op 0 rfl (bxP (s := 10) (cs := (TGraph.lit a0)) rfl ⟨rfl, by decide, rfl⟩ rfl) <| .op 1 rfl (alP (s := 4) ze33 ⟨rfl, by decide, rfl⟩ rfl) <| .op 0 rfl (asV rfl) <| .nil0) <| .seq ?_
  obtain ⟨t2_1, g2_1, h⟩ := h
  refine .reg0 rfl (.o (ldG rfl sz29 ag29 rfl) <| .c rfl go26 rfl rfl rfl (r21_Check.D g2_1) <| .a rfl <| .nil0) <| .seq <| .seq <| .reg0 rfl (.op 0 rfl (mvV rfl) <| .op 0 rfl (neI rfl rfl) <| .nil0) ?_
  by_cases c1 : t2_1 = 0
  · rw [if_pos c1] at h
    refine .condF rfl (nf c1) <| .skip <| .seq ?_
    obtain ⟨g4_4, h⟩ := h
    obtain ⟨g4_9, h⟩ := h
    refine .room 0 ?_
    refine .reg1 (e1 := listEnv [(2, .ptr 1 1 4 0 0), (3, i6 0)]) (H1 := [⟨10, [(TGraph.lit a0)], 0, none⟩, ⟨4, [[i6 (rdl a0.Entry a0.Main), .own 2 ((List.replicate (Int.toNat (a0.Vars.length : Int)) (0 : Int)).length), u6 0, nul]], 0, none⟩, ⟨1, (List.replicate (Int.toNat (a0.Vars.length : Int)) (0 : Int)).map (cInt .i64), 0, none⟩]) rfl ?_ ?_
    · exact .drawM [(12, 3, i6 0), (10, 21, .agg [i6 (rdl a0.Entry a0.Main), .own 2 ((List.replicate (Int.toNat (a0.Vars.length : Int)) (0 : Int)).length), u6 0, nul]), (9, 20, .own 2 ((List.replicate (Int.toNat (a0.Vars.length : Int)) (0 : Int)).length)), (8, 19, i6 (a0.Vars.length : Int)), (7, 18, .rows (a0.Vars.map cStr)), (6, 17, .ptr 0 1 10 0 0), (5, 16, i6 (rdl a0.Entry a0.Main)), (4, 15, .cptr ((cInt .i64) (rdl a0.Entry a0.Main)) 0), (3, 14, i6 a0.Main), (2, 13, .ptr 0 1 10 0 4), (1, 12, .rows (a0.Entry.map (cInt .i64))), (0, 11, .ptr 0 1 10 0 2)] [(11, 1, ⟨4, [[i6 (rdl a0.Entry a0.Main), .own 2 ((List.replicate (Int.toNat (a0.Vars.length : Int)) (0 : Int)).length), u6 0, nul]], 0, none⟩), (9, 2, ⟨1, (List.replicate (Int.toNat (a0.Vars.length : Int)) (0 : Int)).map (cInt .i64), 0, none⟩)] [[], [0], [], [2], [1, 0, 3, 2], [4, 1, 0, 3, 2], [], [6], [7, 6], [8, 7, 6], [5, 4, 1, 0, 3, 2, 9, 8, 7, 6], [10, 5, 4, 1, 0, 3, 2, 9, 8, 7, 6], [11, 10, 5, 4, 1, 0, 3, 2, 9, 8, 7, 6]] (by rfl) (by rfl) (by rfl) (by exact ⟨oP (fun _ => faP fa29_2 rfl) rfl, oP (fun _ => ldP rfl sz23 ag23 rfl) rfl, oP (fun _ => faP fa29_4 rfl) rfl, oP (fun _ => ldP rfl sz3 ag3 rfl) rfl, oP (fun _ => ixR (l := a0.Entry) (lit := (cInt .i64)) sl23 rfl rfl (fun _ => rfl) g4_4.1 g4_4.2) rfl, oP (fun _ => ldC rfl sz3 ag3 rfl) rfl, oP (fun _ => faP fa29_0 rfl) rfl, oP (fun _ => ldP rfl sz22 ag22 rfl) rfl, oP (fun _ => lnR (l := a0.Vars) sl22 rfl) rfl, oW 2 (fun _ => mkS (z0 := (0 : Int)) sl30 un30 ze2 rfl rfl g4_9.1 g4_9.2 rfl) rfl fun _ => rfl, oP (fun _ => bldS (cs := [i6 (rdl a0.Entry a0.Main), .own 2 ((List.replicate (Int.toNat (a0.Vars.length : Int)) (0 : Int)).length), u6 0, nul]) ze33 pl33 rfl rfl) rfl, fun S hS hD hn => .one0 0 rfl rfl (stB (cs0 := GF_c0) (cs := [i6 (rdl a0.Entry a0.Main), .own 2 ((List.replicate (Int.toNat (a0.Vars.length : Int)) (0 : Int)).length), u6 0, nul]) (cs1 := [i6 (rdl a0.Entry a0.Main), .own 2 ((List.replicate (Int.toNat (a0.Vars.length : Int)) (0 : Int)).length), u6 0, nul]) rfl rfl sz33 rfl ⟨Nat.le_of_ble_eq_true rfl, rfl⟩ rfl) (drawE_other _ _ _ _ rfl) rfl, oP (fun _ => asV rfl) rfl, trivial⟩) _ (by exact ⟨.ptr rfl, .free rfl rfl, trivial⟩) (by rfl)
    replace h := h.symm
    subst h
    refine .k [(2, .cptr [i6 (rdl a0.Entry a0.Main), .rows ((List.replicate (Int.toNat (a0.Vars.length : Int)) (0 : Int)).map (cInt .i64)), u6 0, .rows (([] : List Int).map (cInt .i64))] 0), (3, i6 0)] ⟨cFixP rfl rfl (.cons (.free rfl rfl) <| .cons (cFixO (l := (List.replicate (Int.toNat (a0.Vars.length : Int)) (0 : Int))) sl30 rfl rfl rfl rfl) <| .cons (.free rfl rfl) <| .cons (.nil) <| .nil), .free rfl rfl, trivial⟩ ?_
    exact .ret rfl
  · rw [if_neg c1] at h
    refine .condT rfl (nt c1) <| .seq <| .reg0 rfl (.op 0 rfl (bldS (cs := GF_c0) ze33 pl33 rfl rfl) <| .op 0 rfl (mvV rfl) <| .op 0 rfl (stB (cs0 := GF_c0) (cs := GF_c0) (cs1 := GF_c0) rfl rfl sz33 rfl ⟨Nat.le_of_ble_eq_true rfl, rfl⟩ rfl) <| .op 0 rfl (asV rfl) <| .nil0) ?_
    replace h := h.symm
    subst h
    refine .k [(2, .cptr [i6 0, .rows (([] : List Int).map (cInt .i64)), u6 0, .rows (([] : List Int).map (cInt .i64))] 0), (3, i6 t2_1)] ⟨cFixP rfl rfl (.cons (.free rfl rfl) <| .cons (.nil) <| .cons (.free rfl rfl) <| .cons (.nil) <| .nil), .free rfl rfl, trivial⟩ ?_
    exact .ret rfl
def frames_Check.b1 (a0 : TGraph) (a1 : TState) : (Int × Int) → Rnd ((Int × Int)) Unit Int → Prop := fun (x1, x2) z1 => if x2 < (a1.Stack.length : Int) then (((InR x2 a1.Stack.length)) ∧ (¬ ((rdl a1.Stack x2) < 0) → ¬ ((rdl a1.Stack x2) ≥ (a0.Sites.length : Int)) → (InR (rdl a1.Stack x2) a0.Sites.length)) ∧ if ((decide ((rdl a1.Stack x2) < 0)) || ((decide ((rdl a1.Stack x2) ≥ (a0.Sites.length : Int))) || ((rdl a0.Sites (rdl a1.Stack x2)).Proc != x1))) = true then (z1 = .ret 220) else (((InR (rdl a1.Stack x2) a0.Sites.length)) ∧ ((InR ((rdl a0.Sites (rdl a1.Stack x2)).From) a0.Of.length)) ∧ z1 = .next ((rdl a0.Of ((rdl a0.Sites (rdl a1.Stack x2)).From)), (IntKind.i64.wrap (x2 + 1))))) else (z1 = .exit ())
def frames_Check.f (a0 : TGraph) (a1 : TState) (r : Int) : Prop :=
  ∃ t2_1 : Int, (graph_Check.f a0 t2_1) ∧ if t2_1 = 0 then ((¬ (a1.Node < 0) → ¬ (a1.Node ≥ (a0.Of.length : Int)) → ((a1.Env.length : Int) = (a0.Vars.length : Int)) → ((a0.Vars.length : Int) < 64) → ((0 : Int) ≤ (a0.Vars.length : Int))) ∧ if ((decide (a1.Node < 0)) || ((decide (a1.Node ≥ (a0.Of.length : Int))) || ((!((a1.Env.length : Int) == (a0.Vars.length : Int))) || (bif (decide ((a0.Vars.length : Int) < 64)) then ((!((shrI .u64 a1.Marks (a0.Vars.length : Int)) == 0)) || (decide ((a1.Stack.length : Int) > 4096))) else (decide ((a1.Stack.length : Int) > 4096)))))) = true then (r = 220) else (((InR a1.Node a0.Of.length)) ∧ ∃ o1 : Fin Unit Int, Loop (frames_Check.b1 a0 a1) ((rdl a0.Of a1.Node), 0) o1 ∧ o1.on (fun _ => r = 0) (fun r_ => r = r_))) else (r = t2_1)
abbrev GF_A1 : List (List Nat) := [[], [0], [], [2], [], [3, 2, 4], [5, 3, 2, 4], [6, 5, 3, 2, 4], [1, 0, 7, 6, 5, 3, 2, 4], [8, 1, 0, 7, 6, 5, 3, 2, 4], [9, 8, 1, 0, 7, 6, 5, 3, 2, 4]]
theorem frames_Check.D {a0 a1 r} (h : frames_Check.f a0 a1 r) : D Tryz.prog X (.callH 16 [.agg (TGraph.lit a0), .agg (TState.lit a1)] [] (.val (.int .i64 r)) []) := by
  unfold frames_Check.f at h
  refine .enter 98 0 fn16 rfl rfl rfl <| .seq <| .room 0 <| .room 0 <| .reg0 rfl (.op 0 rfl (bxP (s := 10) (cs := (TGraph.lit a0)) rfl ⟨rfl, by decide, rfl⟩ rfl) <| .op 1 rfl (bxP (s := 4) (cs := (TState.lit a1)) rfl ⟨rfl, by decide, rfl⟩ rfl) <| .op 0 rfl (asV rfl) <| .nil0) <| .seq <| .seq ?_
  obtain ⟨t2_1, g2_1, h⟩ := h
  refine .reg0 rfl (.o (ldG rfl sz29 ag29 rfl) <| .c rfl go25 rfl rfl rfl (graph_Check.D g2_1) <| .a rfl <| .nil0) <| .seq <| .reg0 rfl (.op 0 rfl (mvV rfl) <| .op 0 rfl (neI rfl rfl) <| .nil0) ?_
  by_cases c1 : t2_1 = 0
  · rw [if_pos c1] at h
    refine .condF rfl (nf c1) <| .skip <| .seq <| .seq ?_
    obtain ⟨g4_31, h⟩ := h
    refine .reg0 (e1 := listEnv [(2, .ptr 0 1 10 0 0), (3, .ptr 1 1 4 0 0), (54, bo ((decide (a1.Node < 0)) || ((decide (a1.Node ≥ (a0.Of.length : Int))) || ((!((a1.Env.length : Int) == (a0.Vars.length : Int))) || (bif (decide ((a0.Vars.length : Int) < 64)) then ((!((shrI .u64 a1.Marks (a0.Vars.length : Int)) == 0)) || (decide ((a1.Stack.length : Int) > 4096))) else (decide ((a1.Stack.length : Int) > 4096)))))))]) (H1 := [⟨10, [(TGraph.lit a0)], 0, none⟩, ⟨4, [(TState.lit a1)], 0, none⟩]) rfl ?_ ?_
    · refine .o (faP fa33_0 rfl) <| .o (ldP rfl sz3 ag3 rfl) <| .o (ltI rfl rfl) <| .m rfl <| ?_
      by_cases c2 : a1.Node < 0
      · exact (.n rfl (dt c2) <| .n rfl (dt c2) <| .n rfl (dt c2) <| .n rfl (dt c2) <| .n rfl (dt c2) <| .n rfl (dt c2) <| .o (pkTV rfl (dt c2) rfl) <| .m rfl <| .n rfl rfl <| .n rfl rfl <| .n rfl rfl <| .n rfl rfl <| .n rfl rfl <| .n rfl rfl <| .n rfl rfl <| .o (pkTV rfl rfl rfl) <| .m rfl <| .n rfl rfl <| .n rfl rfl <| .n rfl rfl <| .n rfl rfl <| .n rfl rfl <| .u rfl <| .u rfl <| .u rfl <| .u rfl <| .u rfl <| .u rfl <| .u rfl <| .n rfl rfl <| .o (pkTV rfl rfl rfl) <| .m rfl <| .n rfl rfl <| .n rfl rfl <| .n rfl rfl <| .n rfl rfl <| .o (pkTV rfl rfl rfl) <| .nilL _ ⟨.ptr rfl, .ptr rfl, cB rfl (mOrT (dt c2)), trivial⟩)
      · refine .g rfl (df c2) (faP fa33_0 rfl) <| .g rfl (df c2) (ldP rfl sz3 ag3 rfl) <| .g rfl (df c2) (faP fa29_5 rfl) <| .g rfl (df c2) (ldP rfl sz23 ag23 rfl) <| .g rfl (df c2) (lnR (l := a0.Of) sl23 rfl) <| .g rfl (df c2) (geI rfl rfl) <| .o (pkFV rfl (df c2) rfl) <| .m rfl <| ?_
        by_cases c3 : a1.Node ≥ (a0.Of.length : Int)
        · exact (.n rfl (dt c3) <| .n rfl (dt c3) <| .n rfl (dt c3) <| .n rfl (dt c3) <| .n rfl (dt c3) <| .n rfl (dt c3) <| .n rfl (dt c3) <| .o (pkTV rfl (dt c3) rfl) <| .m rfl <| .n rfl rfl <| .n rfl rfl <| .n rfl rfl <| .n rfl rfl <| .n rfl rfl <| .u rfl <| .u rfl <| .u rfl <| .u rfl <| .u rfl <| .u rfl <| .u rfl <| .n rfl rfl <| .o (pkTV rfl rfl rfl) <| .m rfl <| .n rfl rfl <| .n rfl rfl <| .n rfl rfl <| .n rfl rfl <| .o (pkTV rfl rfl rfl) <| .nilL _ ⟨.ptr rfl, .ptr rfl, cB rfl (mOrF (df c2) (mOrT (dt c3))), trivial⟩)
        · refine .g rfl (df c3) (faP fa33_1 rfl) <| .g rfl (df c3) (ldP rfl sz30 ag30 rfl) <| .g rfl (df c3) (lnR (l := a1.Env) sl30 rfl) <| .g rfl (df c3) (faP fa29_0 rfl) <| .g rfl (df c3) (ldP rfl sz22 ag22 rfl) <| .g rfl (df c3) (lnR (l := a0.Vars) sl22 rfl) <| .g rfl (df c3) (neI rfl rfl) <| .o (pkFV rfl (df c3) rfl) <| .m rfl <| ?_
          by_cases c4 : (a1.Env.length : Int) = (a0.Vars.length : Int)
          · refine .g rfl (nf c4) (faP fa29_0 rfl) <| .g rfl (nf c4) (ldP rfl sz22 ag22 rfl) <| .g rfl (nf c4) (lnR (l := a0.Vars) sl22 rfl) <| .g rfl (nf c4) (ltI rfl rfl) <| .g rfl (nf c4) (mvV rfl) <| ?_
            by_cases c5 : (a0.Vars.length : Int) < 64
            · refine .g rfl (dt c5) (faP fa33_2 rfl) <| .g rfl (dt c5) (ldP rfl sz31 ag31 rfl) <| .g rfl (dt c5) (faP fa29_0 rfl) <| .g rfl (dt c5) (ldP rfl sz22 ag22 rfl) <| .g rfl (dt c5) (lnR (l := a0.Vars) sl22 rfl) <| .g rfl (dt c5) (shr_ rfl rfl (g4_31 c2 c3 c4 c5)) <| .g rfl (dt c5) (neI rfl rfl) <| .g rfl (nf c4) (pkTV rfl (dt c5) rfl) <| .o (pkFV rfl (nf c4) rfl) <| .m rfl <| ?_
              by_cases c6 : (shrI .u64 a1.Marks (a0.Vars.length : Int)) = 0
              · exact (.g rfl (nf c6) (faP fa33_3 rfl) <| .g rfl (nf c6) (ldP rfl sz23 ag23 rfl) <| .g rfl (nf c6) (lnR (l := a1.Stack) sl23 rfl) <| .g rfl (nf c6) (gtI rfl rfl) <| .o (pkFV rfl (nf c6) rfl) <| .nilL _ ⟨.ptr rfl, .ptr rfl, cB rfl (mOrF (df c2) (mOrF (df c3) (mOrF (bnotF (bt c4)) (mIteT (dt c5) (mOrF (bnotF (bt c6)) rfl))))), trivial⟩)
              · exact (.n rfl (nt c6) <| .n rfl (nt c6) <| .n rfl (nt c6) <| .n rfl (nt c6) <| .o (pkTV rfl (nt c6) rfl) <| .nilL _ ⟨.ptr rfl, .ptr rfl, cB rfl (mOrF (df c2) (mOrF (df c3) (mOrF (bnotF (bt c4)) (mIteT (dt c5) (mOrT (bnotT (bn c6))))))), trivial⟩)
            · exact (.n rfl (df c5) <| .n rfl (df c5) <| .n rfl (df c5) <| .n rfl (df c5) <| .n rfl (df c5) <| .n rfl (df c5) <| .n rfl (df c5) <| .g rfl (nf c4) (pkFV rfl (df c5) rfl) <| .o (pkFV rfl (nf c4) rfl) <| .m rfl <| .g rfl rfl (faP fa33_3 rfl) <| .g rfl rfl (ldP rfl sz23 ag23 rfl) <| .g rfl rfl (lnR (l := a1.Stack) sl23 rfl) <| .g rfl rfl (gtI rfl rfl) <| .o (pkFV rfl rfl rfl) <| .nilL _ ⟨.ptr rfl, .ptr rfl, cB rfl (mOrF (df c2) (mOrF (df c3) (mOrF (bnotF (bt c4)) (mIteF (df c5) rfl)))), trivial⟩)
          · exact (.n rfl (nt c4) <| .n rfl (nt c4) <| .n rfl (nt c4) <| .n rfl (nt c4) <| .n rfl (nt c4) <| .u rfl <| .u rfl <| .u rfl <| .u rfl <| .u rfl <| .u rfl <| .u rfl <| .n rfl (nt c4) <| .o (pkTV rfl (nt c4) rfl) <| .m rfl <| .n rfl rfl <| .n rfl rfl <| .n rfl rfl <| .n rfl rfl <| .o (pkTV rfl rfl rfl) <| .nilL _ ⟨.ptr rfl, .ptr rfl, cB rfl (mOrF (df c2) (mOrF (df c3) (mOrT (bnotT (bn c4))))), trivial⟩)
    by_cases c7 : ((decide (a1.Node < 0)) || ((decide (a1.Node ≥ (a0.Of.length : Int))) || ((!((a1.Env.length : Int) == (a0.Vars.length : Int))) || (bif (decide ((a0.Vars.length : Int) < 64)) then ((!((shrI .u64 a1.Marks (a0.Vars.length : Int)) == 0)) || (decide ((a1.Stack.length : Int) > 4096))) else (decide ((a1.Stack.length : Int) > 4096)))))) = true
    · rw [if_pos c7] at h
      refine .condT rfl c7 <| .seq <| .reg0 rfl (.op 0 rfl (asV rfl) <| .nil0) ?_
      replace h := h.symm
      subst h
      refine .kf [(4, i6 220)] rfl rfl ?_
      exact .ret rfl
    · rw [if_neg c7] at h
      refine .condF rfl (nb c7) <| .skip <| .seq ?_
      obtain ⟨g6_4, h⟩ := h
      refine .reg0 rfl (.o (faP fa29_5 rfl) <| .o (ldP rfl sz23 ag23 rfl) <| .o (faP fa33_0 rfl) <| .o (ldP rfl sz3 ag3 rfl) <| .o (ixR (l := a0.Of) (lit := (cInt .i64)) sl23 rfl rfl (fun _ => rfl) g6_4.1 g6_4.2) <| .o (ldC rfl sz3 ag3 rfl) <| .a rfl <| .nil0) <| .seq <| .seq <| .reg0 rfl (.op 0 rfl (faP fa33_3 rfl) <| .op 0 rfl (ldP rfl sz23 ag23 rfl) <| .op 0 rfl (lnR (l := a1.Stack) sl23 rfl) <| .op 0 rfl (mvV rfl) <| .nil0) ?_
      refine .block <| .keepL [0] [(2, .ptr 0 1 10 0 0), (6, i6 (rdl a0.Of a1.Node)), (62, .rows (a1.Stack.map (cInt .i64))), (63, i6 (a1.Stack.length : Int)), (64, i6 0)] [⟨10, [(TGraph.lit a0)], 0, none⟩] (by decide) (by decide) ⟨.ptr rfl, .free rfl rfl, .free rfl rfl, .free rfl rfl, .free rfl rfl, trivial⟩ ⟨⟨_, rfl, bcBox (all2_free rfl)⟩, trivial⟩ ?_
      obtain ⟨o1, hL1, h⟩ := h
      refine .loopB (frames_Check.b1 a0 a1) (fun (x1, x2) => listEnv [(2, .ptr 0 1 10 0 0), (6, i6 x1), (62, .rows (a1.Stack.map (cInt .i64))), (63, i6 (a1.Stack.length : Int)), (64, i6 x2)]) (fun (x1, x2) => [⟨10, [(TGraph.lit a0)], 0, none⟩]) (fun _ => listEnv []) (fun _ => []) hL1 (fun r_ => r = r_) ?_ ?_ ?_
      · rintro ⟨⟩ rfl
        try dsimp only [Fin.on] at h
        refine .seq <| .reg0 rfl (.op 0 rfl (asV rfl) <| .nil0) ?_
        replace h := h.symm
        subst h
        refine .kf [(4, i6 0)] rfl rfl ?_
        exact .ret rfl
      · rintro r_ rfl
        exact h
      · rintro ⟨x1, x2⟩ z1 h hn1 hx1 hr1
        dsimp only [frames_Check.b1] at h
        refine .seq <| .reg0 rfl (.op 0 rfl (ltI rfl rfl) <| .nil0) <| .seq ?_
        by_cases c16 : x2 < (a1.Stack.length : Int)
        · rw [if_pos c16] at h
          refine .condT rfl (dt c16) <| .skip <| .seq <| .block <| .seq ?_
          obtain ⟨g21_0, h⟩ := h
          refine .reg0 rfl (.o (ixR (l := a1.Stack) (lit := (cInt .i64)) sl23 rfl rfl (fun _ => rfl) g21_0.1 g21_0.2) <| .o (ldC rfl sz3 ag3 rfl) <| .a rfl <| .nil0) <| .seq <| .seq ?_
          obtain ⟨g22_13, h⟩ := h
          refine .reg0 (e1 := listEnv [(2, .ptr 0 1 10 0 0), (8, i6 (rdl a1.Stack x2)), (62, .rows (a1.Stack.map (cInt .i64))), (63, i6 (a1.Stack.length : Int)), (64, i6 x2), (86, bo ((decide ((rdl a1.Stack x2) < 0)) || ((decide ((rdl a1.Stack x2) ≥ (a0.Sites.length : Int))) || ((rdl a0.Sites (rdl a1.Stack x2)).Proc != x1))))]) (H1 := [⟨10, [(TGraph.lit a0)], 0, none⟩]) rfl ?_ ?_
          · refine .m rfl <| .o (ltI rfl rfl) <| .m rfl <| ?_
            by_cases c17 : (rdl a1.Stack x2) < 0
            · exact (.n rfl (dt c17) <| .n rfl (dt c17) <| .n rfl (dt c17) <| .n rfl (dt c17) <| .n rfl (dt c17) <| .o (pkTV rfl (dt c17) rfl) <| .m rfl <| .n rfl rfl <| .n rfl rfl <| .n rfl rfl <| .n rfl rfl <| .n rfl rfl <| .n rfl rfl <| .n rfl rfl <| .n rfl rfl <| .o (pkTV rfl rfl rfl) <| .nilL _ ⟨.ptr rfl, .free rfl rfl, .free rfl rfl, .free rfl rfl, .free rfl rfl, cB rfl (mOrT (dt c17)), trivial⟩)
            · refine .g rfl (df c17) (mvV rfl) <| .g rfl (df c17) (faP fa29_7 rfl) <| .g rfl (df c17) (ldP rfl sz25 ag25 rfl) <| .g rfl (df c17) (lnR (l := a0.Sites) sl25 rfl) <| .g rfl (df c17) (geI rfl rfl) <| .o (pkFV rfl (df c17) rfl) <| .m rfl <| ?_
              by_cases c18 : (rdl a1.Stack x2) ≥ (a0.Sites.length : Int)
              · exact (.n rfl (dt c18) <| .n rfl (dt c18) <| .n rfl (dt c18) <| .n rfl (dt c18) <| .n rfl (dt c18) <| .n rfl (dt c18) <| .n rfl (dt c18) <| .n rfl (dt c18) <| .o (pkTV rfl (dt c18) rfl) <| .nilL _ ⟨.ptr rfl, .free rfl rfl, .free rfl rfl, .free rfl rfl, .free rfl rfl, cB rfl (mOrF (df c17) (mOrT (dt c18))), trivial⟩)
              · exact (.g rfl (df c18) (faP fa29_7 rfl) <| .g rfl (df c18) (ldP rfl sz25 ag25 rfl) <| .g rfl (df c18) (mvV rfl) <| .g rfl (df c18) (ixR (l := a0.Sites) (lit := TSite.lit) sl25 rfl rfl (fun _ => rfl) (g22_13 c17 c18).1 (g22_13 c17 c18).2) <| .g rfl (df c18) (faC fa70_1 rfl) <| .g rfl (df c18) (ldC rfl sz3 ag3 rfl) <| .g rfl (df c18) (mvV rfl) <| .g rfl (df c18) (neI rfl rfl) <| .o (pkFV rfl (df c18) rfl) <| .nilL _ ⟨.ptr rfl, .free rfl rfl, .free rfl rfl, .free rfl rfl, .free rfl rfl, cB rfl (mOrF (df c17) (mOrF (df c18) rfl)), trivial⟩)
          by_cases c19 : ((decide ((rdl a1.Stack x2) < 0)) || ((decide ((rdl a1.Stack x2) ≥ (a0.Sites.length : Int))) || ((rdl a0.Sites (rdl a1.Stack x2)).Proc != x1))) = true
          · rw [if_pos c19] at h
            refine .condT rfl c19 <| .seq <| .reg0 rfl (.op 0 rfl (asV rfl) <| .nil0) ?_
            have q3 := hr1 _ h
            replace q3 := q3.symm
            subst q3
            refine .kf [(4, i6 220)] rfl rfl ?_
            exact .ret rfl
          · rw [if_neg c19] at h
            refine .condF rfl (nb c19) <| .skip ?_
            obtain ⟨g24_5, h⟩ := h
            obtain ⟨g24_8, h⟩ := h
            refine .reg1 (e1 := listEnv [(2, .ptr 0 1 10 0 0), (6, i6 (rdl a0.Of ((rdl a0.Sites (rdl a1.Stack x2)).From))), (62, .rows (a1.Stack.map (cInt .i64))), (63, i6 (a1.Stack.length : Int)), (64, i6 x2)]) (H1 := [⟨10, [(TGraph.lit a0)], 0, none⟩]) rfl ?_ ?_
            · exact .drawM [(10, 6, i6 (rdl a0.Of ((rdl a0.Sites (rdl a1.Stack x2)).From))), (9, 96, i6 (rdl a0.Of ((rdl a0.Sites (rdl a1.Stack x2)).From))), (8, 95, .cptr ((cInt .i64) (rdl a0.Of ((rdl a0.Sites (rdl a1.Stack x2)).From))) 0), (7, 94, i6 ((rdl a0.Sites (rdl a1.Stack x2)).From)), (6, 93, .cptr (TSite.lit (rdl a0.Sites (rdl a1.Stack x2))) 2), (5, 92, .cptr (TSite.lit (rdl a0.Sites (rdl a1.Stack x2))) 0), (4, 91, i6 (rdl a1.Stack x2)), (3, 90, .rows (a0.Sites.map TSite.cells)), (2, 89, .ptr 0 1 10 0 7), (1, 88, .rows (a0.Of.map (cInt .i64))), (0, 87, .ptr 0 1 10 0 5)] [] GF_A1 (by rfl) (by rfl) (by rfl) (by exact ⟨oP (fun _ => faP fa29_5 rfl) rfl, oP (fun _ => ldP rfl sz23 ag23 rfl) rfl, oP (fun _ => faP fa29_7 rfl) rfl, oP (fun _ => ldP rfl sz25 ag25 rfl) rfl, oP (fun _ => mvV rfl) rfl, oP (fun _ => ixR (l := a0.Sites) (lit := TSite.lit) sl25 rfl rfl (fun _ => rfl) g24_5.1 g24_5.2) rfl, oP (fun _ => faC fa70_2 rfl) rfl, oP (fun _ => ldC rfl sz3 ag3 rfl) rfl, oP (fun _ => ixR (l := a0.Of) (lit := (cInt .i64)) sl23 rfl rfl (fun _ => rfl) g24_8.1 g24_8.2) rfl, oP (fun _ => ldC rfl sz3 ag3 rfl) rfl, oP (fun _ => asV rfl) rfl, trivial⟩) _ (by exact ⟨.ptr rfl, .free rfl rfl, .free rfl rfl, .free rfl rfl, .free rfl rfl, trivial⟩) (by rfl)
            refine .inBlock <| .reg0 rfl (.op 0 rfl (addI rfl rfl) <| .op 0 rfl (mvV rfl) <| .nil0) <| .keepL [0] [(2, .ptr 0 1 10 0 0), (6, i6 (rdl a0.Of ((rdl a0.Sites (rdl a1.Stack x2)).From))), (62, .rows (a1.Stack.map (cInt .i64))), (63, i6 (a1.Stack.length : Int)), (64, i6 (IntKind.i64.wrap (x2 + 1)))] [⟨10, [(TGraph.lit a0)], 0, none⟩] (by decide) (by decide) ⟨.ptr rfl, .free rfl rfl, .free rfl rfl, .free rfl rfl, .free rfl rfl, trivial⟩ ⟨⟨_, rfl, bcBox (all2_free rfl)⟩, trivial⟩ ?_
            exact hn1 _ h
        · rw [if_neg c16] at h
          refine .condF rfl (df c16) <| .exit rfl <| .keepL [] [] [] (by decide) (by decide) trivial trivial ?_
          exact hx1 _ h
  · rw [if_neg c1] at h
    refine .condT rfl (nt c1) <| .seq <| .reg0 rfl (.op 0 rfl (mvV rfl) <| .op 0 rfl (asV rfl) <| .nil0) ?_
    replace h := h.symm
    subst h
    refine .kf [(4, i6 t2_1)] rfl rfl ?_
    exact .ret rfl
def graph_From.j1 (x5 : Int) : (List Int) → (Rnd (((List Int) × Int)) ((List Int)) ((List Int) × Int)) → Prop := fun x10 z1 => z1 = .next (x10, (IntKind.i64.wrap (x5 + 1)))
def graph_From.b1 (a0 : TGraph) (a1 : Int) : ((List Int) × Int) → Rnd (((List Int) × Int)) ((List Int)) ((List Int) × Int) → Prop := fun (x4, x5) z1 => if x5 < (a0.Steps.length : Int) then (((InR x5 a0.Steps.length)) ∧ if (rdl a0.Steps x5).From = a1 then (((Fits (x4.length + 1) 8)) ∧ graph_From.j1 x5 (x4 ++ [x5]) z1) else (graph_From.j1 x5 x4 z1)) else (z1 = .exit x4)
def graph_From.f (a0 : TGraph) (a1 : Int) (r : (List Int) × Int) : Prop :=
  ∃ t2_1 : Int, (graph_Check.f a0 t2_1) ∧ if t2_1 = 0 then (∃ t4_4 : Bool, (graph_in.f a1 (a0.Of.length : Int) t4_4) ∧ if t4_4 = true then (∃ o1 : Fin ((List Int)) ((List Int) × Int), Loop (graph_From.b1 a0 a1) ([], 0) o1 ∧ o1.on (fun x8 => r = (x8, 0)) (fun r_ => r = r_)) else (r = ([], 5))) else (r = ([], t2_1))
theorem graph_From.D {a0 a1 r} (h : graph_From.f a0 a1 r) : D Tryz.prog X (.callH 27 [.agg (TGraph.lit a0), .val (.int .i64 a1)] [] (.tuple [.rows (r.1.map (cInt .i64)), .val (.int .i64 r.2)]) []) := by
  unfold graph_From.f at h
  refine .enter 39 0 fn27 rfl rfl rfl <| .seq <| .room 0 <| .reg0 rfl (.op 0 rfl (bxP (s := 10) (cs := (TGraph.lit a0)) rfl ⟨rfl, by decide, rfl⟩ rfl) <| .op 0 rfl (asV rfl) <| .op 0 rfl (asV rfl) <| .nil0) <| .seq <| .seq ?_
  obtain ⟨t2_1, g2_1, h⟩ := h
  refine .reg0 rfl (.o (ldG rfl sz29 ag29 rfl) <| .c rfl go25 rfl rfl rfl (graph_Check.D g2_1) <| .a rfl <| .nil0) <| .seq <| .reg0 rfl (.op 0 rfl (mvV rfl) <| .op 0 rfl (neI rfl rfl) <| .nil0) ?_
  by_cases c1 : t2_1 = 0
  · rw [if_pos c1] at h
    refine .condF rfl (nf c1) <| .skip <| .seq <| .seq ?_
    obtain ⟨t4_4, g4_4, h⟩ := h
    refine .reg0 rfl (.m rfl <| .o (faP fa29_5 rfl) <| .o (ldP rfl sz23 ag23 rfl) <| .o (lnR (l := a0.Of) sl23 rfl) <| .c rfl go45 rfl rfl rfl (graph_in.D g4_4) <| .o (notB rfl) <| .nil0) ?_
    by_cases c2 : t4_4 = true
    · rw [if_pos c2] at h
      refine .condF rfl (bnotF c2) <| .skip <| .seq <| .reg0 rfl (.op 0 rfl (asV rfl) <| .nil0) <| .seq <| .seq <| .reg0 rfl (.op 0 rfl (faP fa29_6 rfl) <| .op 0 rfl (ldP rfl sz24 ag24 rfl) <| .op 0 rfl (lnR (l := a0.Steps) sl24 rfl) <| .op 0 rfl (mvV rfl) <| .nil0) <| .block <| .room 1 <| .keepL [1] [(1, i6 a1), (7, .own 0 0), (22, .rows (a0.Steps.map TStep.cells)), (23, i6 (a0.Steps.length : Int)), (24, i6 0)] [⟨1, [].map (cInt .i64), 0, none⟩] (by decide) (by decide) ⟨.free rfl rfl, .nilOwn, .free rfl rfl, .free rfl rfl, .free rfl rfl, trivial⟩ ⟨⟨_, rfl, (bcRow (l := []) sl23 (Nat.le_refl _) rfl)⟩, trivial⟩ ?_
      obtain ⟨o1, hL1, h⟩ := h
      refine .loopB (graph_From.b1 a0 a1) (fun (x4, x5) => listEnv [(1, i6 a1), (7, .own 0 x4.length), (22, .rows (a0.Steps.map TStep.cells)), (23, i6 (a0.Steps.length : Int)), (24, i6 x5)]) (fun (x4, x5) => [⟨1, x4.map (cInt .i64), 0, none⟩]) (fun x8 => listEnv [(7, .own 0 x8.length)]) (fun x8 => [⟨1, x8.map (cInt .i64), 0, none⟩]) hL1 (fun r_ => r = r_) ?_ ?_ ?_
      · rintro x8 rfl
        try dsimp only [Fin.on] at h
        refine .seq <| .reg0 rfl (.op 0 rfl (mvO rfl) <| .op 0 rfl (asO rfl) <| .op 0 rfl (asV rfl) <| .nil0) ?_
        replace h := h.symm
        subst h
        refine .k [(4, .rows (x8.map (cInt .i64))), (5, i6 0)] ⟨cFixO (l := x8) sl23 rfl rfl rfl rfl, .free rfl rfl, trivial⟩ ?_
        exact .ret rfl
      · rintro r_ rfl
        exact h
      · rintro ⟨x4, x5⟩ z1 h hn1 hx1 hr1
        dsimp only [graph_From.b1] at h
        refine .seq <| .reg0 rfl (.op 0 rfl (ltI rfl rfl) <| .nil0) <| .seq ?_
        by_cases c13 : x5 < (a0.Steps.length : Int)
        · rw [if_pos c13] at h
          refine .condT rfl (dt c13) <| .skip <| .seq <| .block <| .seq ?_
          obtain ⟨g32_1, h⟩ := h
          refine .room 0 <| .reg0 rfl (.op 0 rfl (mvV rfl) <| .op 0 rfl (ixR (l := a0.Steps) (lit := TStep.lit) sl24 rfl rfl (fun _ => rfl) g32_1.1 g32_1.2) <| .op 0 rfl (ldCG rfl sz65 ag65 rfl) <| .op 1 rfl (alP (s := 7) ze65 ⟨rfl, by decide, rfl⟩ rfl) <| .op 0 rfl (asV rfl) <| .op 0 rfl (stB (cs0 := [i6 0, i6 0, i6 0, i6 0, i6 0, i6 0, i6 0]) (cs := (TStep.lit (rdl a0.Steps x5))) (cs1 := (TStep.lit (rdl a0.Steps x5))) rfl rfl sz65 rfl ⟨Nat.le_of_ble_eq_true rfl, rfl⟩ rfl) <| .nil0) ?_
          refine .seq <| .reg0 rfl (.op 0 rfl (faP fa65_0 rfl) <| .op 0 rfl (ldP rfl sz3 ag3 rfl) <| .op 0 rfl (mvV rfl) <| .op 0 rfl (eqI rfl rfl) <| .nil0) ?_
          refine .consJ (fun s_ => graph_From.j1 x5 s_ z1) (fun x10 => listEnv [(1, i6 a1), (7, .own 0 x10.length), (22, .rows (a0.Steps.map TStep.cells)), (23, i6 (a0.Steps.length : Int)), (24, i6 x5)]) (fun x10 => [⟨1, x10.map (cInt .i64), 0, none⟩]) ?_ fun hJ1 => ?_
          · rintro x10 h
            unfold graph_From.j1 at h
            try dsimp only at h
            refine .inBlock <| .reg0 rfl (.op 0 rfl (addI rfl rfl) <| .op 0 rfl (mvV rfl) <| .nil0) <| .keepL [0] [(1, i6 a1), (7, .own 0 x10.length), (22, .rows (a0.Steps.map TStep.cells)), (23, i6 (a0.Steps.length : Int)), (24, i6 (IntKind.i64.wrap (x5 + 1)))] [⟨1, x10.map (cInt .i64), 0, none⟩] (by decide) (by decide) ⟨.free rfl rfl, .own rfl, .free rfl rfl, .free rfl rfl, .free rfl rfl, trivial⟩ ⟨⟨_, rfl, bcRow (l := x10) sl23 (Nat.le_refl _) rfl⟩, trivial⟩ ?_
            exact hn1 _ h
          · by_cases c17 : (rdl a0.Steps x5).From = a1
            · rw [if_pos c17] at h
              refine .condT rfl (bt c17) ?_
              obtain ⟨g36_3, h⟩ := h
              refine .room 0 <| .room 0 <| .reg0 rfl (.op 0 rfl (mvO rfl) <| .op 0 rfl (mvV rfl) <| .op 2 rfl (bldL (s := 1) (cs := [i6 x5]) un23 sz3 ze3 ⟨by decide, rfl, by decide⟩ rfl rfl rfl rfl) <| .op 0 rfl (ap1 (l := x4) x5 sl23 rfl rfl rfl (Nat.zero_le _) (elems_own (l := [x5]) rfl rfl) g36_3) <| .op 0 rfl (asO rfl) <| .nil0) <| .keepL [0] [(1, i6 a1), (7, .own 0 ((x4 ++ [x5]).length)), (22, .rows (a0.Steps.map TStep.cells)), (23, i6 (a0.Steps.length : Int)), (24, i6 x5)] [⟨1, (x4 ++ [x5]).map (cInt .i64), 0, none⟩] (by decide) (by decide) ⟨.free rfl rfl, .own rfl, .free rfl rfl, .free rfl rfl, .free rfl rfl, trivial⟩ ⟨⟨_, rfl, bcRow (l := (x4 ++ [x5])) sl23 (Nat.le_refl _) rfl⟩, trivial⟩ ?_
              exact hJ1 _ h
            · rw [if_neg c17] at h
              refine .condF rfl (bn c17) <| .skip <| .keepL [0] [(1, i6 a1), (7, .own 0 x4.length), (22, .rows (a0.Steps.map TStep.cells)), (23, i6 (a0.Steps.length : Int)), (24, i6 x5)] [⟨1, x4.map (cInt .i64), 0, none⟩] (by decide) (by decide) ⟨.free rfl rfl, .own rfl, .free rfl rfl, .free rfl rfl, .free rfl rfl, trivial⟩ ⟨⟨_, rfl, bcRow (l := x4) sl23 (Nat.le_refl _) rfl⟩, trivial⟩ ?_
              exact hJ1 _ h
        · rw [if_neg c13] at h
          refine .condF rfl (df c13) <| .exit rfl <| .keepL [0] [(7, .own 0 x4.length)] [⟨1, x4.map (cInt .i64), 0, none⟩] (by decide) (by decide) ⟨.own rfl, trivial⟩ ⟨⟨_, rfl, bcRow (l := x4) sl23 (Nat.le_refl _) rfl⟩, trivial⟩ ?_
          exact hx1 _ h
    · rw [if_neg c2] at h
      refine .condT rfl (bnotT (nb c2)) <| .seq <| .reg0 rfl (.op 0 rfl (asV rfl) <| .op 0 rfl (asV rfl) <| .nil0) ?_
      replace h := h.symm
      subst h
      refine .k [(4, .rows (([] : List Int).map (cInt .i64))), (5, i6 5)] ⟨.nil, .free rfl rfl, trivial⟩ ?_
      exact .ret rfl
  · rw [if_neg c1] at h
    refine .condT rfl (nt c1) <| .seq <| .reg0 rfl (.op 0 rfl (mvV rfl) <| .op 0 rfl (asV rfl) <| .op 0 rfl (asV rfl) <| .nil0) ?_
    replace h := h.symm
    subst h
    refine .k [(4, .rows (([] : List Int).map (cInt .i64))), (5, i6 t2_1)] ⟨.nil, .free rfl rfl, trivial⟩ ?_
    exact .ret rfl
def frames_over.f (a0 : TGraph) (a1 : TState) (r : Bool) : Prop :=
  ((InR a1.Node a0.Of.length)) ∧ ((InR (rdl a0.Of a1.Node) a0.Exit.length)) ∧ r = ((a1.Node == (rdl a0.Exit (rdl a0.Of a1.Node))) && (decide ((a1.Stack.length : Int) > 0)))
abbrev GF_A2 : List (List Nat) := [[], [0], [], [2], [], [4], [], [6], [5, 4, 7, 6], [8, 5, 4, 7, 6], [3, 2, 9, 8, 5, 4, 7, 6], [10, 3, 2, 9, 8, 5, 4, 7, 6], [1, 0, 11, 10, 3, 2, 9, 8, 5, 4, 7, 6], [12, 1, 0, 11, 10, 3, 2, 9, 8, 5, 4, 7, 6], [13, 12, 1, 0, 11, 10, 3, 2, 9, 8, 5, 4, 7, 6], [14, 13, 12, 1, 0, 11, 10, 3, 2, 9, 8, 5, 4, 7, 6], [15, 14, 13, 12, 1, 0, 11, 10, 3, 2, 9, 8, 5, 4, 7, 6], [16, 15, 14, 13, 12, 1, 0, 11, 10, 3, 2, 9, 8, 5, 4, 7, 6], [13, 12, 1, 0, 11, 10, 3, 2, 9, 8, 5, 4, 7, 6, 17, 16, 15, 14], [18, 13, 12, 1, 0, 11, 10, 3, 2, 9, 8, 5, 4, 7, 6, 17, 16, 15, 14]]
theorem frames_over.D {a0 a1 r} (h : frames_over.f a0 a1 r) : D Tryz.prog X (.callH 28 [.agg (TGraph.lit a0), .agg (TState.lit a1)] [] (.val (.bool r)) []) := by
  unfold frames_over.f at h
  refine .enter 24 0 fn28 rfl rfl rfl <| .seq <| .room 0 <| .room 0 <| .reg0 rfl (.op 0 rfl (bxP (s := 10) (cs := (TGraph.lit a0)) rfl ⟨rfl, by decide, rfl⟩ rfl) <| .op 1 rfl (bxP (s := 4) (cs := (TState.lit a1)) rfl ⟨rfl, by decide, rfl⟩ rfl) <| .op 0 rfl (asV rfl) <| .nil0) <| .seq ?_
  obtain ⟨g2_8, h⟩ := h
  obtain ⟨g2_10, h⟩ := h
  refine .reg1 (e1 := listEnv [(4, bo ((a1.Node == (rdl a0.Exit (rdl a0.Of a1.Node))) && (decide ((a1.Stack.length : Int) > 0))))]) (H1 := [⟨10, [(TGraph.lit a0)], 0, none⟩, ⟨4, [(TState.lit a1)], 0, none⟩]) rfl ?_ ?_
  · by_cases c1 : a1.Node = (rdl a0.Exit (rdl a0.Of a1.Node))
    · exact .drawM [(19, 4, bo (decide ((a1.Stack.length : Int) > 0))), (18, 23, bo (decide ((a1.Stack.length : Int) > 0))), (17, 22, bo (decide ((a1.Stack.length : Int) > 0))), (16, 21, i6 (a1.Stack.length : Int)), (15, 20, .rows (a1.Stack.map (cInt .i64))), (14, 19, .ptr 1 1 4 0 3), (13, 18, bo (a1.Node == (rdl a0.Exit (rdl a0.Of a1.Node)))), (12, 17, bo (a1.Node == (rdl a0.Exit (rdl a0.Of a1.Node)))), (11, 16, i6 (rdl a0.Exit (rdl a0.Of a1.Node))), (10, 15, .cptr ((cInt .i64) (rdl a0.Exit (rdl a0.Of a1.Node))) 0), (9, 14, i6 (rdl a0.Of a1.Node)), (8, 13, .cptr ((cInt .i64) (rdl a0.Of a1.Node)) 0), (7, 12, i6 a1.Node), (6, 11, .ptr 1 1 4 0 0), (5, 10, .rows (a0.Of.map (cInt .i64))), (4, 9, .ptr 0 1 10 0 5), (3, 8, .rows (a0.Exit.map (cInt .i64))), (2, 7, .ptr 0 1 10 0 3), (1, 6, i6 a1.Node), (0, 5, .ptr 1 1 4 0 0)] [] GF_A2 (by rfl) (by rfl) (by rfl) (by exact ⟨oP (fun _ => faP fa33_0 rfl) rfl, oP (fun _ => ldP rfl sz3 ag3 rfl) rfl, oP (fun _ => faP fa29_3 rfl) rfl, oP (fun _ => ldP rfl sz23 ag23 rfl) rfl, oP (fun _ => faP fa29_5 rfl) rfl, oP (fun _ => ldP rfl sz23 ag23 rfl) rfl, oP (fun _ => faP fa33_0 rfl) rfl, oP (fun _ => ldP rfl sz3 ag3 rfl) rfl, oP (fun _ => ixR (l := a0.Of) (lit := (cInt .i64)) sl23 rfl rfl (fun _ => rfl) g2_8.1 g2_8.2) rfl, oP (fun _ => ldC rfl sz3 ag3 rfl) rfl, oP (fun _ => ixR (l := a0.Exit) (lit := (cInt .i64)) sl23 rfl rfl (fun _ => rfl) g2_10.1 g2_10.2) rfl, oP (fun _ => ldC rfl sz3 ag3 rfl) rfl, oP (fun _ => eqI rfl rfl) rfl, oP (fun _ => mvV rfl) rfl, oG rfl (fun _ => rfl) (bt c1) (fun _ => faP fa33_3 rfl) rfl, oG rfl (fun _ => rfl) (bt c1) (fun _ => ldP rfl sz23 ag23 rfl) rfl, oG rfl (fun _ => rfl) (bt c1) (fun _ => lnR (l := a1.Stack) sl23 rfl) rfl, oG rfl (fun _ => rfl) (bt c1) (fun _ => gtI rfl rfl) rfl, oP (fun _ => pkTV rfl (bt c1) rfl) rfl, oP (fun _ => asV rfl) rfl, trivial⟩) _ (by exact ⟨cB rfl (mAndT (bt c1) rfl), trivial⟩) (by rfl)
    · exact .drawM [(19, 4, bo false), (18, 23, bo false), (17, 22, und), (16, 21, und), (15, 20, und), (14, 19, und), (13, 18, bo (a1.Node == (rdl a0.Exit (rdl a0.Of a1.Node)))), (12, 17, bo (a1.Node == (rdl a0.Exit (rdl a0.Of a1.Node)))), (11, 16, i6 (rdl a0.Exit (rdl a0.Of a1.Node))), (10, 15, .cptr ((cInt .i64) (rdl a0.Exit (rdl a0.Of a1.Node))) 0), (9, 14, i6 (rdl a0.Of a1.Node)), (8, 13, .cptr ((cInt .i64) (rdl a0.Of a1.Node)) 0), (7, 12, i6 a1.Node), (6, 11, .ptr 1 1 4 0 0), (5, 10, .rows (a0.Of.map (cInt .i64))), (4, 9, .ptr 0 1 10 0 5), (3, 8, .rows (a0.Exit.map (cInt .i64))), (2, 7, .ptr 0 1 10 0 3), (1, 6, i6 a1.Node), (0, 5, .ptr 1 1 4 0 0)] [] GF_A2 (by rfl) (by rfl) (by rfl) (by exact ⟨oP (fun _ => faP fa33_0 rfl) rfl, oP (fun _ => ldP rfl sz3 ag3 rfl) rfl, oP (fun _ => faP fa29_3 rfl) rfl, oP (fun _ => ldP rfl sz23 ag23 rfl) rfl, oP (fun _ => faP fa29_5 rfl) rfl, oP (fun _ => ldP rfl sz23 ag23 rfl) rfl, oP (fun _ => faP fa33_0 rfl) rfl, oP (fun _ => ldP rfl sz3 ag3 rfl) rfl, oP (fun _ => ixR (l := a0.Of) (lit := (cInt .i64)) sl23 rfl rfl (fun _ => rfl) g2_8.1 g2_8.2) rfl, oP (fun _ => ldC rfl sz3 ag3 rfl) rfl, oP (fun _ => ixR (l := a0.Exit) (lit := (cInt .i64)) sl23 rfl rfl (fun _ => rfl) g2_10.1 g2_10.2) rfl, oP (fun _ => ldC rfl sz3 ag3 rfl) rfl, oP (fun _ => eqI rfl rfl) rfl, oP (fun _ => mvV rfl) rfl, oN rfl (fun _ => rfl) (bn c1) rfl, oN rfl (fun _ => rfl) (bn c1) rfl, oN rfl (fun _ => rfl) (bn c1) rfl, oN rfl (fun _ => rfl) (bn c1) rfl, oP (fun _ => pkFV rfl (bn c1) rfl) rfl, oP (fun _ => asV rfl) rfl, trivial⟩) _ (by exact ⟨cB rfl (mAndF (bn c1)), trivial⟩) (by rfl)
  replace h := h.symm
  subst h
  refine .kf [(4, bo ((a1.Node == (rdl a0.Exit (rdl a0.Of a1.Node))) && (decide ((a1.Stack.length : Int) > 0))))] rfl rfl ?_
  exact .ret rfl
def frames_Moves.f (a0 : TGraph) (a1 : TState) (r : (List Int) × Bool × Int) : Prop :=
  ∃ t2_2 : Int, (frames_Check.f a0 a1 t2_2) ∧ if t2_2 = 0 then (∃ t4_3 : (List Int) × Int, (graph_From.f a0 a1.Node t4_3) ∧ ∃ t5_3 : Bool, (frames_over.f a0 a1 t5_3) ∧ r = (t4_3.1, t5_3, t4_3.2)) else (r = ([], false, t2_2))
theorem frames_Moves.D {a0 a1 r} (h : frames_Moves.f a0 a1 r) : D Tryz.prog X (.callH 10 [.agg (TGraph.lit a0), .agg (TState.lit a1)] [] (.tuple [.rows (r.1.map (cInt .i64)), .val (.bool r.2.1), .val (.int .i64 r.2.2)]) []) := by
  unfold frames_Moves.f at h
  refine .enter 28 0 fn10 rfl rfl rfl <| .seq <| .room 0 <| .room 0 <| .reg0 rfl (.op 0 rfl (bxP (s := 10) (cs := (TGraph.lit a0)) rfl ⟨rfl, by decide, rfl⟩ rfl) <| .op 1 rfl (bxP (s := 4) (cs := (TState.lit a1)) rfl ⟨rfl, by decide, rfl⟩ rfl) <| .op 0 rfl (asV rfl) <| .op 0 rfl (asV rfl) <| .op 0 rfl (asV rfl) <| .nil0) <| .seq <| .seq ?_
  obtain ⟨t2_2, g2_2, h⟩ := h
  refine .reg0 rfl (.o (ldG rfl sz29 ag29 rfl) <| .o (ldG rfl sz33 ag33 rfl) <| .c rfl go16 rfl rfl rfl (frames_Check.D g2_2) <| .a rfl <| .nil0) <| .seq <| .reg0 rfl (.op 0 rfl (mvV rfl) <| .op 0 rfl (neI rfl rfl) <| .nil0) ?_
  by_cases c1 : t2_2 = 0
  · rw [if_pos c1] at h
    refine .condF rfl (nf c1) <| .skip <| .seq ?_
    obtain ⟨t4_3, g4_3, h⟩ := h
    refine .reg0 rfl (.o (ldG rfl sz29 ag29 rfl) <| .o (faP fa33_0 rfl) <| .o (ldP rfl sz3 ag3 rfl) <| .c rfl go27 rfl rfl rfl (graph_From.D g4_3) <| .o (mvT rfl) <| .o (exT rfl rfl) <| .o (exT rfl rfl) <| .o (asR rfl) <| .a rfl <| .nil0) <| .seq ?_
    obtain ⟨t5_3, g5_3, h⟩ := h
    refine .reg0 rfl (.o (mvR rfl) <| .o (ldG rfl sz29 ag29 rfl) <| .o (ldG rfl sz33 ag33 rfl) <| .c rfl go28 rfl rfl rfl (frames_over.D g5_3) <| .m rfl <| .o (asR rfl) <| .a rfl <| .a rfl <| .nil0) ?_
    replace h := h.symm
    subst h
    refine .kf [(4, .rows (t4_3.1.map (cInt .i64))), (5, bo t5_3), (6, i6 t4_3.2)] rfl rfl ?_
    exact .ret rfl
  · rw [if_neg c1] at h
    refine .condT rfl (nt c1) <| .seq <| .reg0 rfl (.op 0 rfl (mvV rfl) <| .op 0 rfl (asV rfl) <| .op 0 rfl (asV rfl) <| .op 0 rfl (asV rfl) <| .nil0) ?_
    replace h := h.symm
    subst h
    refine .k [(4, .rows (([] : List Int).map (cInt .i64))), (5, bo false), (6, i6 t2_2)] ⟨.nil, .free rfl rfl, .free rfl rfl, trivial⟩ ?_
    exact .ret rfl
def r22_state.b1 (a1 : TState) : Int → Rnd Int Unit Bool → Prop := fun x1 z1 => if x1 < 64 then ((((0 : Int) ≤ (IntKind.u64.wrap x1))) ∧ if (bitOp .and .u64 (shrI .u64 a1.Marks (IntKind.u64.wrap x1)) 1) = 1 then (z1 = .ret false) else (z1 = .next (IntKind.i64.wrap (x1 + 1)))) else (z1 = .exit ())
def r22_state.b2 (a0 : TGraph) (a1 : TState) : (Int × Int) → Rnd ((Int × Int)) Unit Bool → Prop := fun (x2, x3) z2 => if x3 < (a1.Stack.length : Int) then (((InR x3 a1.Stack.length)) ∧ (¬ ((rdl a1.Stack x3) < 0) → ¬ ((rdl a1.Stack x3) ≥ (a0.Sites.length : Int)) → (InR (rdl a1.Stack x3) a0.Sites.length)) ∧ if ((decide ((rdl a1.Stack x3) < 0)) || ((decide ((rdl a1.Stack x3) ≥ (a0.Sites.length : Int))) || ((rdl a0.Sites (rdl a1.Stack x3)).Proc != x2))) = true then (z2 = .ret false) else (((InR (rdl a1.Stack x3) a0.Sites.length)) ∧ ((InR ((rdl a0.Sites (rdl a1.Stack x3)).From) a0.Of.length)) ∧ z2 = .next ((rdl a0.Of ((rdl a0.Sites (rdl a1.Stack x3)).From)), (IntKind.i64.wrap (x3 + 1))))) else (z2 = .exit ())
def r22_state.f (a0 : TGraph) (a1 : TState) (r : Bool) : Prop :=
  if ((decide (a1.Node < 0)) || ((decide (a1.Node ≥ (a0.Of.length : Int))) || ((!((a1.Env.length : Int) == (a0.Vars.length : Int))) || (decide ((a1.Stack.length : Int) > 4096))))) = true then (r = false) else (∃ o1 : Fin Unit Bool, Loop (r22_state.b1 a1) (a0.Vars.length : Int) o1 ∧ o1.on (fun _ => ((InR a1.Node a0.Of.length)) ∧ ∃ o2 : Fin Unit Bool, Loop (r22_state.b2 a0 a1) ((rdl a0.Of a1.Node), 0) o2 ∧ o2.on (fun _ => r = true) (fun r_ => r = r_)) (fun r_ => r = r_))
theorem r22_state.D {a0 a1 r} (h : r22_state.f a0 a1 r) : D Tryz.prog X (.callH 30 [.agg (TGraph.lit a0), .agg (TState.lit a1)] [] (.val (.bool r)) []) := by
  unfold r22_state.f at h
  refine .enter 96 0 fn30 rfl rfl rfl <| .seq <| .room 0 <| .room 0 <| .reg0 rfl (.op 0 rfl (bxP (s := 10) (cs := (TGraph.lit a0)) rfl ⟨rfl, by decide, rfl⟩ rfl) <| .op 1 rfl (bxP (s := 4) (cs := (TState.lit a1)) rfl ⟨rfl, by decide, rfl⟩ rfl) <| .op 0 rfl (asV rfl) <| .nil0) <| .seq <| .seq ?_
  refine .reg0 (e1 := listEnv [(2, .ptr 0 1 10 0 0), (3, .ptr 1 1 4 0 0), (34, bo ((decide (a1.Node < 0)) || ((decide (a1.Node ≥ (a0.Of.length : Int))) || ((!((a1.Env.length : Int) == (a0.Vars.length : Int))) || (decide ((a1.Stack.length : Int) > 4096))))))]) (H1 := [⟨10, [(TGraph.lit a0)], 0, none⟩, ⟨4, [(TState.lit a1)], 0, none⟩]) rfl ?_ ?_
  · refine .o (faP fa33_0 rfl) <| .o (ldP rfl sz3 ag3 rfl) <| .o (ltI rfl rfl) <| .m rfl <| ?_
    by_cases c1 : a1.Node < 0
    · exact (.n rfl (dt c1) <| .n rfl (dt c1) <| .n rfl (dt c1) <| .n rfl (dt c1) <| .n rfl (dt c1) <| .n rfl (dt c1) <| .o (pkTV rfl (dt c1) rfl) <| .m rfl <| .n rfl rfl <| .n rfl rfl <| .n rfl rfl <| .n rfl rfl <| .n rfl rfl <| .n rfl rfl <| .n rfl rfl <| .o (pkTV rfl rfl rfl) <| .m rfl <| .n rfl rfl <| .n rfl rfl <| .n rfl rfl <| .n rfl rfl <| .o (pkTV rfl rfl rfl) <| .nilL _ ⟨.ptr rfl, .ptr rfl, cB rfl (mOrT (dt c1)), trivial⟩)
    · refine .g rfl (df c1) (faP fa33_0 rfl) <| .g rfl (df c1) (ldP rfl sz3 ag3 rfl) <| .g rfl (df c1) (faP fa29_5 rfl) <| .g rfl (df c1) (ldP rfl sz23 ag23 rfl) <| .g rfl (df c1) (lnR (l := a0.Of) sl23 rfl) <| .g rfl (df c1) (geI rfl rfl) <| .o (pkFV rfl (df c1) rfl) <| .m rfl <| ?_
      by_cases c2 : a1.Node ≥ (a0.Of.length : Int)
      · exact (.n rfl (dt c2) <| .n rfl (dt c2) <| .n rfl (dt c2) <| .n rfl (dt c2) <| .n rfl (dt c2) <| .n rfl (dt c2) <| .n rfl (dt c2) <| .o (pkTV rfl (dt c2) rfl) <| .m rfl <| .n rfl rfl <| .n rfl rfl <| .n rfl rfl <| .n rfl rfl <| .o (pkTV rfl rfl rfl) <| .nilL _ ⟨.ptr rfl, .ptr rfl, cB rfl (mOrF (df c1) (mOrT (dt c2))), trivial⟩)
      · refine .g rfl (df c2) (faP fa33_1 rfl) <| .g rfl (df c2) (ldP rfl sz30 ag30 rfl) <| .g rfl (df c2) (lnR (l := a1.Env) sl30 rfl) <| .g rfl (df c2) (faP fa29_0 rfl) <| .g rfl (df c2) (ldP rfl sz22 ag22 rfl) <| .g rfl (df c2) (lnR (l := a0.Vars) sl22 rfl) <| .g rfl (df c2) (neI rfl rfl) <| .o (pkFV rfl (df c2) rfl) <| .m rfl <| ?_
        by_cases c3 : (a1.Env.length : Int) = (a0.Vars.length : Int)
        · exact (.g rfl (nf c3) (faP fa33_3 rfl) <| .g rfl (nf c3) (ldP rfl sz23 ag23 rfl) <| .g rfl (nf c3) (lnR (l := a1.Stack) sl23 rfl) <| .g rfl (nf c3) (gtI rfl rfl) <| .o (pkFV rfl (nf c3) rfl) <| .nilL _ ⟨.ptr rfl, .ptr rfl, cB rfl (mOrF (df c1) (mOrF (df c2) (mOrF (bnotF (bt c3)) rfl))), trivial⟩)
        · exact (.n rfl (nt c3) <| .n rfl (nt c3) <| .n rfl (nt c3) <| .n rfl (nt c3) <| .o (pkTV rfl (nt c3) rfl) <| .nilL _ ⟨.ptr rfl, .ptr rfl, cB rfl (mOrF (df c1) (mOrF (df c2) (mOrT (bnotT (bn c3))))), trivial⟩)
  by_cases c4 : ((decide (a1.Node < 0)) || ((decide (a1.Node ≥ (a0.Of.length : Int))) || ((!((a1.Env.length : Int) == (a0.Vars.length : Int))) || (decide ((a1.Stack.length : Int) > 4096))))) = true
  · rw [if_pos c4] at h
    refine .condT rfl c4 <| .seq <| .reg0 rfl (.op 0 rfl (asV rfl) <| .nil0) ?_
    replace h := h.symm
    subst h
    refine .kf [(4, bo false)] rfl rfl ?_
    exact .ret rfl
  · rw [if_neg c4] at h
    refine .condF rfl (nb c4) <| .skip <| .seq <| .seq <| .reg0 rfl (.op 0 rfl (faP fa29_0 rfl) <| .op 0 rfl (ldP rfl sz22 ag22 rfl) <| .op 0 rfl (lnR (l := a0.Vars) sl22 rfl) <| .op 0 rfl (asV rfl) <| .nil0) <| .block <| .keepL [0, 1] [(2, .ptr 0 1 10 0 0), (3, .ptr 1 1 4 0 0), (5, i6 (a0.Vars.length : Int))] [⟨10, [(TGraph.lit a0)], 0, none⟩, ⟨4, [(TState.lit a1)], 0, none⟩] (by decide) (by decide) ⟨.ptr rfl, .ptr rfl, .free rfl rfl, trivial⟩ ⟨⟨_, rfl, bcBox (all2_free rfl)⟩, ⟨_, rfl, bcBox (all2_free rfl)⟩, trivial⟩ ?_
    obtain ⟨o1, hL1, h⟩ := h
    refine .loopB (r22_state.b1 a1) (fun x1 => listEnv [(2, .ptr 0 1 10 0 0), (3, .ptr 1 1 4 0 0), (5, i6 x1)]) (fun x1 => [⟨10, [(TGraph.lit a0)], 0, none⟩, ⟨4, [(TState.lit a1)], 0, none⟩]) (fun _ => listEnv [(2, .ptr 0 1 10 0 0), (3, .ptr 1 1 4 0 0)]) (fun _ => [⟨10, [(TGraph.lit a0)], 0, none⟩, ⟨4, [(TState.lit a1)], 0, none⟩]) hL1 (fun r_ => r = r_) ?_ ?_ ?_
    · rintro ⟨⟩ rfl
      try dsimp only [Fin.on] at h
      refine .seq ?_
      obtain ⟨g17_4, h⟩ := h
      refine .reg0 rfl (.o (faP fa29_5 rfl) <| .o (ldP rfl sz23 ag23 rfl) <| .o (faP fa33_0 rfl) <| .o (ldP rfl sz3 ag3 rfl) <| .o (ixR (l := a0.Of) (lit := (cInt .i64)) sl23 rfl rfl (fun _ => rfl) g17_4.1 g17_4.2) <| .o (ldC rfl sz3 ag3 rfl) <| .a rfl <| .nil0) <| .seq <| .seq <| .reg0 rfl (.op 0 rfl (asV rfl) <| .nil0) <| .block <| .keepL [0, 1] [(2, .ptr 0 1 10 0 0), (3, .ptr 1 1 4 0 0), (6, i6 (rdl a0.Of a1.Node)), (7, i6 0)] [⟨10, [(TGraph.lit a0)], 0, none⟩, ⟨4, [(TState.lit a1)], 0, none⟩] (by decide) (by decide) ⟨.ptr rfl, .ptr rfl, .free rfl rfl, .free rfl rfl, trivial⟩ ⟨⟨_, rfl, bcBox (all2_free rfl)⟩, ⟨_, rfl, bcBox (all2_free rfl)⟩, trivial⟩ ?_
      obtain ⟨o2, hL2, h⟩ := h
      refine .loopB (r22_state.b2 a0 a1) (fun (x2, x3) => listEnv [(2, .ptr 0 1 10 0 0), (3, .ptr 1 1 4 0 0), (6, i6 x2), (7, i6 x3)]) (fun (x2, x3) => [⟨10, [(TGraph.lit a0)], 0, none⟩, ⟨4, [(TState.lit a1)], 0, none⟩]) (fun _ => listEnv []) (fun _ => []) hL2 (fun r_ => r = r_) ?_ ?_ ?_
      · rintro ⟨⟩ rfl
        try dsimp only [Fin.on] at h
        refine .seq <| .reg0 rfl (.op 0 rfl (asV rfl) <| .nil0) ?_
        replace h := h.symm
        subst h
        refine .kf [(4, bo true)] rfl rfl ?_
        exact .ret rfl
      · rintro r_ rfl
        exact h
      · rintro ⟨x2, x3⟩ z2 h hn2 hx2 hr2
        dsimp only [r22_state.b2] at h
        refine .seq <| .seq <| .reg0 rfl (.op 0 rfl (mvV rfl) <| .op 0 rfl (faP fa33_3 rfl) <| .op 0 rfl (ldP rfl sz23 ag23 rfl) <| .op 0 rfl (lnR (l := a1.Stack) sl23 rfl) <| .op 0 rfl (ltI rfl rfl) <| .nil0) ?_
        by_cases c19 : x3 < (a1.Stack.length : Int)
        · rw [if_pos c19] at h
          refine .condT rfl (dt c19) <| .skip <| .seq <| .block <| .seq ?_
          obtain ⟨g32_3, h⟩ := h
          refine .reg0 rfl (.o (faP fa33_3 rfl) <| .o (ldP rfl sz23 ag23 rfl) <| .m rfl <| .o (ixR (l := a1.Stack) (lit := (cInt .i64)) sl23 rfl rfl (fun _ => rfl) g32_3.1 g32_3.2) <| .o (ldC rfl sz3 ag3 rfl) <| .a rfl <| .nil0) <| .seq <| .seq ?_
          obtain ⟨g33_13, h⟩ := h
          refine .reg0 (e1 := listEnv [(2, .ptr 0 1 10 0 0), (3, .ptr 1 1 4 0 0), (7, i6 x3), (8, i6 (rdl a1.Stack x3)), (85, bo ((decide ((rdl a1.Stack x3) < 0)) || ((decide ((rdl a1.Stack x3) ≥ (a0.Sites.length : Int))) || ((rdl a0.Sites (rdl a1.Stack x3)).Proc != x2))))]) (H1 := [⟨10, [(TGraph.lit a0)], 0, none⟩, ⟨4, [(TState.lit a1)], 0, none⟩]) rfl ?_ ?_
          · refine .m rfl <| .o (ltI rfl rfl) <| .m rfl <| ?_
            by_cases c20 : (rdl a1.Stack x3) < 0
            · exact (.n rfl (dt c20) <| .n rfl (dt c20) <| .n rfl (dt c20) <| .n rfl (dt c20) <| .n rfl (dt c20) <| .o (pkTV rfl (dt c20) rfl) <| .m rfl <| .n rfl rfl <| .n rfl rfl <| .n rfl rfl <| .n rfl rfl <| .n rfl rfl <| .n rfl rfl <| .n rfl rfl <| .n rfl rfl <| .o (pkTV rfl rfl rfl) <| .nilL _ ⟨.ptr rfl, .ptr rfl, .free rfl rfl, .free rfl rfl, cB rfl (mOrT (dt c20)), trivial⟩)
            · refine .g rfl (df c20) (mvV rfl) <| .g rfl (df c20) (faP fa29_7 rfl) <| .g rfl (df c20) (ldP rfl sz25 ag25 rfl) <| .g rfl (df c20) (lnR (l := a0.Sites) sl25 rfl) <| .g rfl (df c20) (geI rfl rfl) <| .o (pkFV rfl (df c20) rfl) <| .m rfl <| ?_
              by_cases c21 : (rdl a1.Stack x3) ≥ (a0.Sites.length : Int)
              · exact (.n rfl (dt c21) <| .n rfl (dt c21) <| .n rfl (dt c21) <| .n rfl (dt c21) <| .n rfl (dt c21) <| .n rfl (dt c21) <| .n rfl (dt c21) <| .n rfl (dt c21) <| .o (pkTV rfl (dt c21) rfl) <| .nilL _ ⟨.ptr rfl, .ptr rfl, .free rfl rfl, .free rfl rfl, cB rfl (mOrF (df c20) (mOrT (dt c21))), trivial⟩)
              · exact (.g rfl (df c21) (faP fa29_7 rfl) <| .g rfl (df c21) (ldP rfl sz25 ag25 rfl) <| .g rfl (df c21) (mvV rfl) <| .g rfl (df c21) (ixR (l := a0.Sites) (lit := TSite.lit) sl25 rfl rfl (fun _ => rfl) (g33_13 c20 c21).1 (g33_13 c20 c21).2) <| .g rfl (df c21) (faC fa70_1 rfl) <| .g rfl (df c21) (ldC rfl sz3 ag3 rfl) <| .g rfl (df c21) (mvV rfl) <| .g rfl (df c21) (neI rfl rfl) <| .o (pkFV rfl (df c21) rfl) <| .nilL _ ⟨.ptr rfl, .ptr rfl, .free rfl rfl, .free rfl rfl, cB rfl (mOrF (df c20) (mOrF (df c21) rfl)), trivial⟩)
          by_cases c22 : ((decide ((rdl a1.Stack x3) < 0)) || ((decide ((rdl a1.Stack x3) ≥ (a0.Sites.length : Int))) || ((rdl a0.Sites (rdl a1.Stack x3)).Proc != x2))) = true
          · rw [if_pos c22] at h
            refine .condT rfl c22 <| .seq <| .reg0 rfl (.op 0 rfl (asV rfl) <| .nil0) ?_
            have q6 := hr2 _ h
            replace q6 := q6.symm
            subst q6
            refine .kf [(4, bo false)] rfl rfl ?_
            exact .ret rfl
          · rw [if_neg c22] at h
            refine .condF rfl (nb c22) <| .skip ?_
            obtain ⟨g35_5, h⟩ := h
            obtain ⟨g35_8, h⟩ := h
            refine .reg1 (e1 := listEnv [(2, .ptr 0 1 10 0 0), (3, .ptr 1 1 4 0 0), (6, i6 (rdl a0.Of ((rdl a0.Sites (rdl a1.Stack x3)).From))), (7, i6 x3)]) (H1 := [⟨10, [(TGraph.lit a0)], 0, none⟩, ⟨4, [(TState.lit a1)], 0, none⟩]) rfl ?_ ?_
            · exact .drawM [(10, 6, i6 (rdl a0.Of ((rdl a0.Sites (rdl a1.Stack x3)).From))), (9, 95, i6 (rdl a0.Of ((rdl a0.Sites (rdl a1.Stack x3)).From))), (8, 94, .cptr ((cInt .i64) (rdl a0.Of ((rdl a0.Sites (rdl a1.Stack x3)).From))) 0), (7, 93, i6 ((rdl a0.Sites (rdl a1.Stack x3)).From)), (6, 92, .cptr (TSite.lit (rdl a0.Sites (rdl a1.Stack x3))) 2), (5, 91, .cptr (TSite.lit (rdl a0.Sites (rdl a1.Stack x3))) 0), (4, 90, i6 (rdl a1.Stack x3)), (3, 89, .rows (a0.Sites.map TSite.cells)), (2, 88, .ptr 0 1 10 0 7), (1, 87, .rows (a0.Of.map (cInt .i64))), (0, 86, .ptr 0 1 10 0 5)] [] GF_A1 (by rfl) (by rfl) (by rfl) (by exact ⟨oP (fun _ => faP fa29_5 rfl) rfl, oP (fun _ => ldP rfl sz23 ag23 rfl) rfl, oP (fun _ => faP fa29_7 rfl) rfl, oP (fun _ => ldP rfl sz25 ag25 rfl) rfl, oP (fun _ => mvV rfl) rfl, oP (fun _ => ixR (l := a0.Sites) (lit := TSite.lit) sl25 rfl rfl (fun _ => rfl) g35_5.1 g35_5.2) rfl, oP (fun _ => faC fa70_2 rfl) rfl, oP (fun _ => ldC rfl sz3 ag3 rfl) rfl, oP (fun _ => ixR (l := a0.Of) (lit := (cInt .i64)) sl23 rfl rfl (fun _ => rfl) g35_8.1 g35_8.2) rfl, oP (fun _ => ldC rfl sz3 ag3 rfl) rfl, oP (fun _ => asV rfl) rfl, trivial⟩) _ (by exact ⟨.ptr rfl, .ptr rfl, .free rfl rfl, .free rfl rfl, trivial⟩) (by rfl)
            refine .inBlock <| .reg0 rfl (.op 0 rfl (mvV rfl) <| .op 0 rfl (addI rfl rfl) <| .op 0 rfl (asV rfl) <| .nil0) <| .keepL [0, 1] [(2, .ptr 0 1 10 0 0), (3, .ptr 1 1 4 0 0), (6, i6 (rdl a0.Of ((rdl a0.Sites (rdl a1.Stack x3)).From))), (7, i6 (IntKind.i64.wrap (x3 + 1)))] [⟨10, [(TGraph.lit a0)], 0, none⟩, ⟨4, [(TState.lit a1)], 0, none⟩] (by decide) (by decide) ⟨.ptr rfl, .ptr rfl, .free rfl rfl, .free rfl rfl, trivial⟩ ⟨⟨_, rfl, bcBox (all2_free rfl)⟩, ⟨_, rfl, bcBox (all2_free rfl)⟩, trivial⟩ ?_
            exact hn2 _ h
        · rw [if_neg c19] at h
          refine .condF rfl (df c19) <| .exit rfl <| .keepL [] [] [] (by decide) (by decide) trivial trivial ?_
          exact hx2 _ h
    · rintro r_ rfl
      exact h
    · rintro x1 z1 h hn1 hx1 hr1
      dsimp only [r22_state.b1] at h
      refine .seq <| .seq <| .reg0 rfl (.op 0 rfl (mvV rfl) <| .op 0 rfl (ltI rfl rfl) <| .nil0) ?_
      by_cases c9 : x1 < 64
      · rw [if_pos c9] at h
        refine .condT rfl (dt c9) <| .skip <| .seq <| .block <| .seq ?_
        obtain ⟨g14_4, h⟩ := h
        refine .reg0 rfl (.o (faP fa33_2 rfl) <| .o (ldP rfl sz31 ag31 rfl) <| .m rfl <| .o (convI un3 un68 rfl) <| .o (shr_ rfl rfl g14_4) <| .o (andI rfl rfl) <| .o (eqI rfl rfl) <| .nil0) ?_
        by_cases c10 : (bitOp .and .u64 (shrI .u64 a1.Marks (IntKind.u64.wrap x1)) 1) = 1
        · rw [if_pos c10] at h
          refine .condT rfl (bt c10) <| .seq <| .reg0 rfl (.op 0 rfl (asV rfl) <| .nil0) ?_
          have q3 := hr1 _ h
          replace q3 := q3.symm
          subst q3
          refine .kf [(4, bo false)] rfl rfl ?_
          exact .ret rfl
        · rw [if_neg c10] at h
          refine .condF rfl (bn c10) <| .skip <| .inBlock <| .reg0 rfl (.op 0 rfl (mvV rfl) <| .op 0 rfl (addI rfl rfl) <| .op 0 rfl (asV rfl) <| .nil0) <| .keepL [0, 1] [(2, .ptr 0 1 10 0 0), (3, .ptr 1 1 4 0 0), (5, i6 (IntKind.i64.wrap (x1 + 1)))] [⟨10, [(TGraph.lit a0)], 0, none⟩, ⟨4, [(TState.lit a1)], 0, none⟩] (by decide) (by decide) ⟨.ptr rfl, .ptr rfl, .free rfl rfl, trivial⟩ ⟨⟨_, rfl, bcBox (all2_free rfl)⟩, ⟨_, rfl, bcBox (all2_free rfl)⟩, trivial⟩ ?_
          exact hn1 _ h
      · rw [if_neg c9] at h
        refine .condF rfl (df c9) <| .exit rfl <| .keepL [0, 1] [(2, .ptr 0 1 10 0 0), (3, .ptr 1 1 4 0 0)] [⟨10, [(TGraph.lit a0)], 0, none⟩, ⟨4, [(TState.lit a1)], 0, none⟩] (by decide) (by decide) ⟨.ptr rfl, .ptr rfl, trivial⟩ ⟨⟨_, rfl, bcBox (all2_free rfl)⟩, ⟨_, rfl, bcBox (all2_free rfl)⟩, trivial⟩ ?_
        exact hx1 _ h
def r22_Check.f (a0 : TGraph) (a1 : TState) (r : Int) : Prop :=
  ∃ t2_1 : Int, (r21_Check.f a0 t2_1) ∧ if t2_1 = 0 then (∃ t4_2 : Bool, (r22_state.f a0 a1 t4_2) ∧ if t4_2 = true then (r = 0) else (r = 220)) else (r = t2_1)
theorem r22_Check.D {a0 a1 r} (h : r22_Check.f a0 a1 r) : D Tryz.prog X (.callH 17 [.agg (TGraph.lit a0), .agg (TState.lit a1)] [] (.val (.int .i64 r)) []) := by
  unfold r22_Check.f at h
  refine .enter 15 0 fn17 rfl rfl rfl <| .seq <| .room 0 <| .room 0 <| .reg0 rfl (.op 0 rfl (bxP (s := 10) (cs := (TGraph.lit a0)) rfl ⟨rfl, by decide, rfl⟩ rfl) <| .op 1 rfl (bxP (s := 4) (cs := (TState.lit a1)) rfl ⟨rfl, by decide, rfl⟩ rfl) <| .op 0 rfl (asV rfl) <| .nil0) <| .seq ?_
  obtain ⟨t2_1, g2_1, h⟩ := h
  refine .reg0 rfl (.o (ldG rfl sz29 ag29 rfl) <| .c rfl go26 rfl rfl rfl (r21_Check.D g2_1) <| .a rfl <| .nil0) <| .seq <| .seq <| .reg0 rfl (.op 0 rfl (mvV rfl) <| .op 0 rfl (neI rfl rfl) <| .nil0) ?_
  by_cases c1 : t2_1 = 0
  · rw [if_pos c1] at h
    refine .condF rfl (nf c1) <| .skip <| .seq <| .seq ?_
    obtain ⟨t4_2, g4_2, h⟩ := h
    refine .reg0 rfl (.o (ldG rfl sz29 ag29 rfl) <| .o (ldG rfl sz33 ag33 rfl) <| .c rfl go30 rfl rfl rfl (r22_state.D g4_2) <| .o (notB rfl) <| .nil0) ?_
    by_cases c2 : t4_2 = true
    · rw [if_pos c2] at h
      refine .condF rfl (bnotF c2) <| .skip <| .seq <| .reg0 rfl (.op 0 rfl (asV rfl) <| .nil0) ?_
      replace h := h.symm
      subst h
      refine .kf [(4, i6 0)] rfl rfl ?_
      exact .ret rfl
    · rw [if_neg c2] at h
      refine .condT rfl (bnotT (nb c2)) <| .seq <| .reg0 rfl (.op 0 rfl (asV rfl) <| .nil0) ?_
      replace h := h.symm
      subst h
      refine .kf [(4, i6 220)] rfl rfl ?_
      exact .ret rfl
  · rw [if_neg c1] at h
    refine .condT rfl (nt c1) <| .seq <| .reg0 rfl (.op 0 rfl (mvV rfl) <| .op 0 rfl (asV rfl) <| .nil0) ?_
    replace h := h.symm
    subst h
    refine .kf [(4, i6 t2_1)] rfl rfl ?_
    exact .ret rfl
def r22_over.f (a0 : TGraph) (a1 : TState) (r : Bool) : Prop :=
  (((a1.Stack.length : Int) > 0) → (InR a1.Node a0.Of.length)) ∧ (((a1.Stack.length : Int) > 0) → (InR (rdl a0.Of a1.Node) a0.Exit.length)) ∧ r = ((decide ((a1.Stack.length : Int) > 0)) && (a1.Node == (rdl a0.Exit (rdl a0.Of a1.Node))))
abbrev GF_A3 : List (List Nat) := [[], [0], [1, 0], [2, 1, 0], [3, 2, 1, 0], [4, 3, 2, 1, 0], [5, 4, 3, 2, 1, 0], [4, 3, 2, 1, 0], [7, 4, 3, 2, 1, 0], [4, 3, 2, 1, 0], [9, 4, 3, 2, 1, 0], [4, 3, 2, 1, 0], [11, 4, 3, 2, 1, 0], [10, 9, 4, 3, 2, 1, 0, 12, 11], [13, 10, 9, 4, 3, 2, 1, 0, 12, 11], [8, 7, 4, 3, 2, 1, 0, 14, 13, 10, 9, 12, 11], [15, 8, 7, 4, 3, 2, 1, 0, 14, 13, 10, 9, 12, 11], [6, 5, 4, 3, 2, 1, 0, 16, 15, 8, 7, 14, 13, 10, 9, 12, 11], [4, 3, 2, 1, 0, 17, 6, 5, 16, 15, 8, 7, 14, 13, 10, 9, 12, 11], [18, 4, 3, 2, 1, 0, 17, 6, 5, 16, 15, 8, 7, 14, 13, 10, 9, 12, 11]]
theorem r22_over.D {a0 a1 r} (h : r22_over.f a0 a1 r) : D Tryz.prog X (.callH 29 [.agg (TGraph.lit a0), .agg (TState.lit a1)] [] (.val (.bool r)) []) := by
  unfold r22_over.f at h
  refine .enter 24 0 fn29 rfl rfl rfl <| .seq <| .room 0 <| .room 0 <| .reg0 rfl (.op 0 rfl (bxP (s := 10) (cs := (TGraph.lit a0)) rfl ⟨rfl, by decide, rfl⟩ rfl) <| .op 1 rfl (bxP (s := 4) (cs := (TState.lit a1)) rfl ⟨rfl, by decide, rfl⟩ rfl) <| .op 0 rfl (asV rfl) <| .nil0) <| .seq ?_
  obtain ⟨g2_13, h⟩ := h
  obtain ⟨g2_15, h⟩ := h
  refine .reg1 (e1 := listEnv [(4, bo ((decide ((a1.Stack.length : Int) > 0)) && (a1.Node == (rdl a0.Exit (rdl a0.Of a1.Node)))))]) (H1 := [⟨10, [(TGraph.lit a0)], 0, none⟩, ⟨4, [(TState.lit a1)], 0, none⟩]) rfl ?_ ?_
  · by_cases c1 : (a1.Stack.length : Int) > 0
    · exact .drawM [(19, 4, bo (a1.Node == (rdl a0.Exit (rdl a0.Of a1.Node)))), (18, 23, bo (a1.Node == (rdl a0.Exit (rdl a0.Of a1.Node)))), (17, 22, bo (a1.Node == (rdl a0.Exit (rdl a0.Of a1.Node)))), (16, 21, i6 (rdl a0.Exit (rdl a0.Of a1.Node))), (15, 20, .cptr ((cInt .i64) (rdl a0.Exit (rdl a0.Of a1.Node))) 0), (14, 19, i6 (rdl a0.Of a1.Node)), (13, 18, .cptr ((cInt .i64) (rdl a0.Of a1.Node)) 0), (12, 17, i6 a1.Node), (11, 16, .ptr 1 1 4 0 0), (10, 15, .rows (a0.Of.map (cInt .i64))), (9, 14, .ptr 0 1 10 0 5), (8, 13, .rows (a0.Exit.map (cInt .i64))), (7, 12, .ptr 0 1 10 0 3), (6, 11, i6 a1.Node), (5, 10, .ptr 1 1 4 0 0), (4, 9, bo (decide ((a1.Stack.length : Int) > 0))), (3, 8, bo (decide ((a1.Stack.length : Int) > 0))), (2, 7, i6 (a1.Stack.length : Int)), (1, 6, .rows (a1.Stack.map (cInt .i64))), (0, 5, .ptr 1 1 4 0 3)] [] GF_A3 (by rfl) (by rfl) (by rfl) (by exact ⟨oP (fun _ => faP fa33_3 rfl) rfl, oP (fun _ => ldP rfl sz23 ag23 rfl) rfl, oP (fun _ => lnR (l := a1.Stack) sl23 rfl) rfl, oP (fun _ => gtI rfl rfl) rfl, oP (fun _ => mvV rfl) rfl, oG rfl (fun _ => rfl) (dt c1) (fun _ => faP fa33_0 rfl) rfl, oG rfl (fun _ => rfl) (dt c1) (fun _ => ldP rfl sz3 ag3 rfl) rfl, oG rfl (fun _ => rfl) (dt c1) (fun _ => faP fa29_3 rfl) rfl, oG rfl (fun _ => rfl) (dt c1) (fun _ => ldP rfl sz23 ag23 rfl) rfl, oG rfl (fun _ => rfl) (dt c1) (fun _ => faP fa29_5 rfl) rfl, oG rfl (fun _ => rfl) (dt c1) (fun _ => ldP rfl sz23 ag23 rfl) rfl, oG rfl (fun _ => rfl) (dt c1) (fun _ => faP fa33_0 rfl) rfl, oG rfl (fun _ => rfl) (dt c1) (fun _ => ldP rfl sz3 ag3 rfl) rfl, oG rfl (fun _ => rfl) (dt c1) (fun _ => ixR (l := a0.Of) (lit := (cInt .i64)) sl23 rfl rfl (fun _ => rfl) (g2_13 c1).1 (g2_13 c1).2) rfl, oG rfl (fun _ => rfl) (dt c1) (fun _ => ldC rfl sz3 ag3 rfl) rfl, oG rfl (fun _ => rfl) (dt c1) (fun _ => ixR (l := a0.Exit) (lit := (cInt .i64)) sl23 rfl rfl (fun _ => rfl) (g2_15 c1).1 (g2_15 c1).2) rfl, oG rfl (fun _ => rfl) (dt c1) (fun _ => ldC rfl sz3 ag3 rfl) rfl, oG rfl (fun _ => rfl) (dt c1) (fun _ => eqI rfl rfl) rfl, oP (fun _ => pkTV rfl (dt c1) rfl) rfl, oP (fun _ => asV rfl) rfl, trivial⟩) _ (by exact ⟨cB rfl (mAndT (dt c1) rfl), trivial⟩) (by rfl)
    · exact .drawM [(19, 4, bo false), (18, 23, bo false), (17, 22, und), (16, 21, und), (15, 20, und), (14, 19, und), (13, 18, und), (12, 17, und), (11, 16, und), (10, 15, und), (9, 14, und), (8, 13, und), (7, 12, und), (6, 11, und), (5, 10, und), (4, 9, bo (decide ((a1.Stack.length : Int) > 0))), (3, 8, bo (decide ((a1.Stack.length : Int) > 0))), (2, 7, i6 (a1.Stack.length : Int)), (1, 6, .rows (a1.Stack.map (cInt .i64))), (0, 5, .ptr 1 1 4 0 3)] [] GF_A3 (by rfl) (by rfl) (by rfl) (by exact ⟨oP (fun _ => faP fa33_3 rfl) rfl, oP (fun _ => ldP rfl sz23 ag23 rfl) rfl, oP (fun _ => lnR (l := a1.Stack) sl23 rfl) rfl, oP (fun _ => gtI rfl rfl) rfl, oP (fun _ => mvV rfl) rfl, oN rfl (fun _ => rfl) (df c1) rfl, oN rfl (fun _ => rfl) (df c1) rfl, oN rfl (fun _ => rfl) (df c1) rfl, oN rfl (fun _ => rfl) (df c1) rfl, oN rfl (fun _ => rfl) (df c1) rfl, oN rfl (fun _ => rfl) (df c1) rfl, oN rfl (fun _ => rfl) (df c1) rfl, oN rfl (fun _ => rfl) (df c1) rfl, oN rfl (fun _ => rfl) (df c1) rfl, oN rfl (fun _ => rfl) (df c1) rfl, oN rfl (fun _ => rfl) (df c1) rfl, oN rfl (fun _ => rfl) (df c1) rfl, oN rfl (fun _ => rfl) (df c1) rfl, oP (fun _ => pkFV rfl (df c1) rfl) rfl, oP (fun _ => asV rfl) rfl, trivial⟩) _ (by exact ⟨cB rfl (mAndF (df c1)), trivial⟩) (by rfl)
  replace h := h.symm
  subst h
  refine .kf [(4, bo ((decide ((a1.Stack.length : Int) > 0)) && (a1.Node == (rdl a0.Exit (rdl a0.Of a1.Node)))))] rfl rfl ?_
  exact .ret rfl
def r22_Moves.j1 (x5 : Int) : (List Int) → (Rnd (((List Int) × Int)) ((List Int)) ((List Int) × Bool × Int)) → Prop := fun x10 z1 => z1 = .next (x10, (IntKind.i64.wrap (x5 + 1)))
def r22_Moves.b1 (a0 : TGraph) (a1 : TState) : ((List Int) × Int) → Rnd (((List Int) × Int)) ((List Int)) ((List Int) × Bool × Int) → Prop := fun (x4, x5) z1 => if x5 < (a0.Steps.length : Int) then (((InR x5 a0.Steps.length)) ∧ if (rdl a0.Steps x5).From = a1.Node then (((Fits (x4.length + 1) 8)) ∧ r22_Moves.j1 x5 (x4 ++ [x5]) z1) else (r22_Moves.j1 x5 x4 z1)) else (z1 = .exit x4)
def r22_Moves.f (a0 : TGraph) (a1 : TState) (r : (List Int) × Bool × Int) : Prop :=
  ∃ t2_2 : Int, (r22_Check.f a0 a1 t2_2) ∧ if t2_2 = 0 then (∃ o1 : Fin ((List Int)) ((List Int) × Bool × Int), Loop (r22_Moves.b1 a0 a1) ([], 0) o1 ∧ o1.on (fun x8 => ∃ t30_3 : Bool, (r22_over.f a0 a1 t30_3) ∧ r = (x8, t30_3, 0)) (fun r_ => r = r_)) else (r = ([], false, t2_2))
theorem r22_Moves.D {a0 a1 r} (h : r22_Moves.f a0 a1 r) : D Tryz.prog X (.callH 11 [.agg (TGraph.lit a0), .agg (TState.lit a1)] [] (.tuple [.rows (r.1.map (cInt .i64)), .val (.bool r.2.1), .val (.int .i64 r.2.2)]) []) := by
  unfold r22_Moves.f at h
  refine .enter 40 0 fn11 rfl rfl rfl <| .seq <| .room 0 <| .room 0 <| .reg0 rfl (.op 0 rfl (bxP (s := 10) (cs := (TGraph.lit a0)) rfl ⟨rfl, by decide, rfl⟩ rfl) <| .op 1 rfl (bxP (s := 4) (cs := (TState.lit a1)) rfl ⟨rfl, by decide, rfl⟩ rfl) <| .op 0 rfl (asV rfl) <| .op 0 rfl (asV rfl) <| .op 0 rfl (asV rfl) <| .nil0) <| .seq ?_
  obtain ⟨t2_2, g2_2, h⟩ := h
  refine .reg0 rfl (.o (ldG rfl sz29 ag29 rfl) <| .o (ldG rfl sz33 ag33 rfl) <| .c rfl go17 rfl rfl rfl (r22_Check.D g2_2) <| .a rfl <| .nil0) <| .seq <| .seq <| .reg0 rfl (.op 0 rfl (mvV rfl) <| .op 0 rfl (neI rfl rfl) <| .nil0) ?_
  by_cases c1 : t2_2 = 0
  · rw [if_pos c1] at h
    refine .condF rfl (nf c1) <| .skip <| .seq <| .reg0 rfl (.op 0 rfl (asV rfl) <| .nil0) <| .seq <| .seq <| .reg0 rfl (.op 0 rfl (asV rfl) <| .nil0) <| .block <| .room 1 <| .keepL [0, 1, 2] [(2, .ptr 0 1 10 0 0), (3, .ptr 1 1 4 0 0), (8, .own 2 0), (9, i6 0)] [⟨10, [(TGraph.lit a0)], 0, none⟩, ⟨4, [(TState.lit a1)], 0, none⟩, ⟨1, [].map (cInt .i64), 0, none⟩] (by decide) (by decide) ⟨.ptr rfl, .ptr rfl, .nilOwn, .free rfl rfl, trivial⟩ ⟨⟨_, rfl, bcBox (all2_free rfl)⟩, ⟨_, rfl, bcBox (all2_free rfl)⟩, ⟨_, rfl, (bcRow (l := []) sl23 (Nat.le_refl _) rfl)⟩, trivial⟩ ?_
    obtain ⟨o1, hL1, h⟩ := h
    refine .loopB (r22_Moves.b1 a0 a1) (fun (x4, x5) => listEnv [(2, .ptr 0 1 10 0 0), (3, .ptr 1 1 4 0 0), (8, .own 2 x4.length), (9, i6 x5)]) (fun (x4, x5) => [⟨10, [(TGraph.lit a0)], 0, none⟩, ⟨4, [(TState.lit a1)], 0, none⟩, ⟨1, x4.map (cInt .i64), 0, none⟩]) (fun x8 => listEnv [(2, .ptr 0 1 10 0 0), (3, .ptr 1 1 4 0 0), (8, .own 2 x8.length)]) (fun x8 => [⟨10, [(TGraph.lit a0)], 0, none⟩, ⟨4, [(TState.lit a1)], 0, none⟩, ⟨1, x8.map (cInt .i64), 0, none⟩]) hL1 (fun r_ => r = r_) ?_ ?_ ?_
    · rintro x8 rfl
      try dsimp only [Fin.on] at h
      refine .seq ?_
      obtain ⟨t30_3, g30_3, h⟩ := h
      refine .reg0 rfl (.o (mvO rfl) <| .o (ldG rfl sz29 ag29 rfl) <| .o (ldG rfl sz33 ag33 rfl) <| .c rfl go29 rfl rfl rfl (r22_over.D g30_3) <| .o (asO rfl) <| .a rfl <| .a rfl <| .nil0) ?_
      replace h := h.symm
      subst h
      refine .k [(4, .rows (x8.map (cInt .i64))), (5, bo t30_3), (6, i6 0)] ⟨cFixO (l := x8) sl23 rfl rfl rfl rfl, .free rfl rfl, .free rfl rfl, trivial⟩ ?_
      exact .ret rfl
    · rintro r_ rfl
      exact h
    · rintro ⟨x4, x5⟩ z1 h hn1 hx1 hr1
      dsimp only [r22_Moves.b1] at h
      refine .seq <| .seq <| .reg0 rfl (.op 0 rfl (mvV rfl) <| .op 0 rfl (faP fa29_6 rfl) <| .op 0 rfl (ldP rfl sz24 ag24 rfl) <| .op 0 rfl (lnR (l := a0.Steps) sl24 rfl) <| .op 0 rfl (ltI rfl rfl) <| .nil0) ?_
      by_cases c12 : x5 < (a0.Steps.length : Int)
      · rw [if_pos c12] at h
        refine .condT rfl (dt c12) <| .skip <| .seq <| .block <| .seq ?_
        obtain ⟨g26_3, h⟩ := h
        refine .reg1 (e1 := listEnv [(2, .ptr 0 1 10 0 0), (3, .ptr 1 1 4 0 0), (8, .own 2 x4.length), (9, i6 x5), (31, bo ((rdl a0.Steps x5).From == a1.Node))]) (H1 := [⟨10, [(TGraph.lit a0)], 0, none⟩, ⟨4, [(TState.lit a1)], 0, none⟩, ⟨1, x4.map (cInt .i64), 0, none⟩]) rfl ?_ ?_
        · exact .drawM [(8, 31, bo ((rdl a0.Steps x5).From == a1.Node)), (7, 30, i6 a1.Node), (6, 29, .ptr 1 1 4 0 0), (5, 28, i6 ((rdl a0.Steps x5).From)), (4, 27, .cptr (TStep.lit (rdl a0.Steps x5)) 0), (3, 26, .cptr (TStep.lit (rdl a0.Steps x5)) 0), (2, 25, i6 x5), (1, 24, .rows (a0.Steps.map TStep.cells)), (0, 23, .ptr 0 1 10 0 6)] [] [[], [0], [], [1, 0, 2], [3, 1, 0, 2], [4, 3, 1, 0, 2], [], [6], [5, 4, 3, 1, 0, 2, 7, 6]] (by rfl) (by rfl) (by rfl) (by exact ⟨oP (fun _ => faP fa29_6 rfl) rfl, oP (fun _ => ldP rfl sz24 ag24 rfl) rfl, oP (fun _ => mvV rfl) rfl, oP (fun _ => ixR (l := a0.Steps) (lit := TStep.lit) sl24 rfl rfl (fun _ => rfl) g26_3.1 g26_3.2) rfl, oP (fun _ => faC fa65_0 rfl) rfl, oP (fun _ => ldC rfl sz3 ag3 rfl) rfl, oP (fun _ => faP fa33_0 rfl) rfl, oP (fun _ => ldP rfl sz3 ag3 rfl) rfl, oP (fun _ => eqI rfl rfl) rfl, trivial⟩) _ (by exact ⟨.ptr rfl, .ptr rfl, .own rfl, .free rfl rfl, .free rfl rfl, trivial⟩) (by rfl)
        refine .consJ (fun s_ => r22_Moves.j1 x5 s_ z1) (fun x10 => listEnv [(2, .ptr 0 1 10 0 0), (3, .ptr 1 1 4 0 0), (8, .own 2 x10.length), (9, i6 x5)]) (fun x10 => [⟨10, [(TGraph.lit a0)], 0, none⟩, ⟨4, [(TState.lit a1)], 0, none⟩, ⟨1, x10.map (cInt .i64), 0, none⟩]) ?_ fun hJ1 => ?_
        · rintro x10 h
          unfold r22_Moves.j1 at h
          try dsimp only at h
          refine .inBlock <| .reg0 rfl (.op 0 rfl (mvV rfl) <| .op 0 rfl (addI rfl rfl) <| .op 0 rfl (asV rfl) <| .nil0) <| .keepL [0, 1, 2] [(2, .ptr 0 1 10 0 0), (3, .ptr 1 1 4 0 0), (8, .own 2 x10.length), (9, i6 (IntKind.i64.wrap (x5 + 1)))] [⟨10, [(TGraph.lit a0)], 0, none⟩, ⟨4, [(TState.lit a1)], 0, none⟩, ⟨1, x10.map (cInt .i64), 0, none⟩] (by decide) (by decide) ⟨.ptr rfl, .ptr rfl, .own rfl, .free rfl rfl, trivial⟩ ⟨⟨_, rfl, bcBox (all2_free rfl)⟩, ⟨_, rfl, bcBox (all2_free rfl)⟩, ⟨_, rfl, bcRow (l := x10) sl23 (Nat.le_refl _) rfl⟩, trivial⟩ ?_
          exact hn1 _ h
        · by_cases c16 : (rdl a0.Steps x5).From = a1.Node
          · rw [if_pos c16] at h
            refine .condT rfl (bt c16) ?_
            obtain ⟨g29_3, h⟩ := h
            refine .room 0 <| .room 0 <| .reg0 rfl (.op 0 rfl (mvO rfl) <| .op 0 rfl (mvV rfl) <| .op 3 rfl (bldL (s := 1) (cs := [i6 x5]) un23 sz3 ze3 ⟨by decide, rfl, by decide⟩ rfl rfl rfl rfl) <| .op 0 rfl (ap1 (l := x4) x5 sl23 rfl rfl rfl (Nat.zero_le _) (elems_own (l := [x5]) rfl rfl) g29_3) <| .op 0 rfl (asO rfl) <| .nil0) <| .keepL [0, 1, 2] [(2, .ptr 0 1 10 0 0), (3, .ptr 1 1 4 0 0), (8, .own 2 ((x4 ++ [x5]).length)), (9, i6 x5)] [⟨10, [(TGraph.lit a0)], 0, none⟩, ⟨4, [(TState.lit a1)], 0, none⟩, ⟨1, (x4 ++ [x5]).map (cInt .i64), 0, none⟩] (by decide) (by decide) ⟨.ptr rfl, .ptr rfl, .own rfl, .free rfl rfl, trivial⟩ ⟨⟨_, rfl, bcBox (all2_free rfl)⟩, ⟨_, rfl, bcBox (all2_free rfl)⟩, ⟨_, rfl, bcRow (l := (x4 ++ [x5])) sl23 (Nat.le_refl _) rfl⟩, trivial⟩ ?_
            exact hJ1 _ h
          · rw [if_neg c16] at h
            refine .condF rfl (bn c16) <| .skip <| .keepL [0, 1, 2] [(2, .ptr 0 1 10 0 0), (3, .ptr 1 1 4 0 0), (8, .own 2 x4.length), (9, i6 x5)] [⟨10, [(TGraph.lit a0)], 0, none⟩, ⟨4, [(TState.lit a1)], 0, none⟩, ⟨1, x4.map (cInt .i64), 0, none⟩] (by decide) (by decide) ⟨.ptr rfl, .ptr rfl, .own rfl, .free rfl rfl, trivial⟩ ⟨⟨_, rfl, bcBox (all2_free rfl)⟩, ⟨_, rfl, bcBox (all2_free rfl)⟩, ⟨_, rfl, bcRow (l := x4) sl23 (Nat.le_refl _) rfl⟩, trivial⟩ ?_
            exact hJ1 _ h
      · rw [if_neg c12] at h
        refine .condF rfl (df c12) <| .exit rfl <| .keepL [0, 1, 2] [(2, .ptr 0 1 10 0 0), (3, .ptr 1 1 4 0 0), (8, .own 2 x4.length)] [⟨10, [(TGraph.lit a0)], 0, none⟩, ⟨4, [(TState.lit a1)], 0, none⟩, ⟨1, x4.map (cInt .i64), 0, none⟩] (by decide) (by decide) ⟨.ptr rfl, .ptr rfl, .own rfl, trivial⟩ ⟨⟨_, rfl, bcBox (all2_free rfl)⟩, ⟨_, rfl, bcBox (all2_free rfl)⟩, ⟨_, rfl, bcRow (l := x4) sl23 (Nat.le_refl _) rfl⟩, trivial⟩ ?_
        exact hx1 _ h
  · rw [if_neg c1] at h
    refine .condT rfl (nt c1) <| .seq <| .reg0 rfl (.op 0 rfl (mvV rfl) <| .op 0 rfl (asV rfl) <| .op 0 rfl (asV rfl) <| .op 0 rfl (asV rfl) <| .nil0) ?_
    replace h := h.symm
    subst h
    refine .k [(4, .rows (([] : List Int).map (cInt .i64))), (5, bo false), (6, i6 t2_2)] ⟨.nil, .free rfl rfl, .free rfl rfl, trivial⟩ ?_
    exact .ret rfl
end Go.RM.Tryz
