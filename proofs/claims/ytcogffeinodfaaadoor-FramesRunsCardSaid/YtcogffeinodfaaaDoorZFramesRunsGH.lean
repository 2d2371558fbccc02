/- GH, for the statement FramesRuns: what it needs, no more. -/
import Derived.Test.YtcogffeinodfaaaDoorZFramesRunsGG
set_option linter.unusedVariables false
set_option maxRecDepth 8000
set_option maxHeartbeats 4000000
namespace Go.RM.Tryd
open Go.RM Go.Proofs
variable {X : FuncId → List PV → Heap → PV → Heap → Prop}
def r21_Check.j1 (x4 : Int) : Int → (Rnd ((Int × Int)) Int Int) → Prop := fun x9 z1 => z1 = .next (x9, (IntKind.i64.wrap (x4 + 1)))
def r21_Check.b1 (a0 : TGraph) : (Int × Int) → Rnd ((Int × Int)) Int Int → Prop := fun (x3, x4) z1 => if x4 < (a0.Steps.length : Int) then (((InR x4 a0.Steps.length)) ∧ ∃ t55_6 : Bool, (r21_step.f a0 (rdl a0.Steps x4) t55_6) ∧ if t55_6 = true then (((InR x4 a0.Steps.length)) ∧ if (rdl a0.Steps x4).Kind = 8 then (((InR x4 a0.Steps.length)) ∧ if (rdl a0.Steps x4).Site = x3 then (r21_Check.j1 x4 (IntKind.i64.wrap (x3 + 1)) z1) else (z1 = .ret 213)) else (r21_Check.j1 x4 x3 z1)) else (z1 = .ret 213)) else (z1 = .exit x3)
def r21_Check.b2 (a0 : TGraph) : Int → Rnd Int Unit Int → Prop := fun x10 z2 => if x10 < (a0.Points.length : Int) then (((InR x10 a0.Points.length)) ∧ ∃ t76_9 : Bool, (r21_in.f ((rdl a0.Points x10).Node) (a0.Of.length : Int) t76_9) ∧ if t76_9 = true then (z2 = .next (IntKind.i64.wrap (x10 + 1))) else (z2 = .ret 213)) else (z2 = .exit ())
def r21_Check.b3 (a0 : TGraph) : Int → Rnd Int Unit Int → Prop := fun x11 z3 => if x11 < (a0.Sinks.length : Int) then (((InR x11 a0.Sinks.length)) ∧ ∃ t89_9 : Bool, (r21_in.f ((rdl a0.Sinks x11).Node) (a0.Of.length : Int) t89_9) ∧ ((t89_9 = true) → (InR x11 a0.Sinks.length)) ∧ ∃ t89_21 : Bool, ((t89_9 = true) → r21_in.f ((rdl a0.Sinks x11).X) (a0.Vars.length : Int) t89_21) ∧ if ((!t89_9) || (!t89_21)) = true then (z3 = .ret 213) else (z3 = .next (IntKind.i64.wrap (x11 + 1)))) else (z3 = .exit ())
def r21_Check.f (a0 : TGraph) (r : Int) : Prop :=
  ∃ t2_1 : Bool, (r21_heads.f a0 t2_1) ∧ if t2_1 = true then (∃ o1 : Fin Int Int, Loop (r21_Check.b1 a0) (0, 0) o1 ∧ o1.on (fun x7 => if x7 = (a0.Sites.length : Int) then (∃ o2 : Fin Unit Int, Loop (r21_Check.b2 a0) 0 o2 ∧ o2.on (fun _ => ∃ o3 : Fin Unit Int, Loop (r21_Check.b3 a0) 0 o3 ∧ o3.on (fun _ => r = 0) (fun r_ => r = r_)) (fun r_ => r = r_)) else (r = 213)) (fun r_ => r = r_)) else (r = 213)
theorem r21_Check.D {a0 : TGraph} {r : Int} (h : r21_Check.f a0 r) : D Tryd.prog X (.callH 25 [.agg (TGraph.lit a0)] [] (.val (.int .i64 r)) []) := by
  unfold r21_Check.f at h
  refine .enter 96 0 fn25 rfl rfl rfl ?_
  refine .seq <| .room 0 <| .reg0 rfl (.op 0 rfl (bxP (s := 10) (cs := (TGraph.lit a0)) rfl ⟨rfl, by decide, rfl⟩ rfl) <| .op 0 rfl (asV rfl) <| .nil0) ?_
  refine .seq <| .seq ?_
  obtain ⟨t2_1, g2_1, h⟩ := h
  refine .reg0 rfl (.op 0 rfl (ldG rfl sz29 ag29 rfl) <| .callI rfl (callee_of rfl go34 rfl) (.pure rfl rfl (r21_heads.D g2_1)) <| .op 0 rfl (notB rfl) <| .nil0) ?_
  by_cases c1 : t2_1 = true
  · rw [if_pos c1] at h
    refine .condF rfl (bnotF c1) ?_
    refine .skip <| .seq <| .reg0 rfl (.op 0 rfl (asV rfl) <| .nil0) ?_
    refine .seq <| .seq <| .reg0 rfl (.op 0 rfl (asV rfl) <| .nil0) ?_
    refine .block <| .keepL [0] [(1, .ptr 0 1 10 0 0), (3, .val (.int .i64 0)), (4, .val (.int .i64 0))] [⟨10, [(TGraph.lit a0)], 0, none⟩] (by decide) (by decide) ⟨.ptr rfl, .free rfl rfl, .free rfl rfl, trivial⟩ ⟨⟨_, rfl, bcBox (all2_free rfl)⟩, trivial⟩ ?_
    obtain ⟨o1, hL1, h⟩ := h
    refine .loopB (r21_Check.b1 a0) (fun (x3, x4) => listEnv [(1, .ptr 0 1 10 0 0), (3, .val (.int .i64 x3)), (4, .val (.int .i64 x4))]) (fun (x3, x4) => [⟨10, [(TGraph.lit a0)], 0, none⟩]) (fun x7 => listEnv [(1, .ptr 0 1 10 0 0), (3, .val (.int .i64 x7))]) (fun x7 => [⟨10, [(TGraph.lit a0)], 0, none⟩]) hL1 (fun r_ => r = r_) ?_ ?_ ?_
    · rintro x7 rfl
      try dsimp only [Fin.on] at h
      refine .seq <| .seq <| .reg0 rfl (.op 0 rfl (mvV rfl) <| .op 0 rfl (faP fa29_7 rfl) <| .op 0 rfl (ldP rfl sz25 ag25 rfl) <| .op 0 rfl (lnR (l := a0.Sites) sl25 rfl) <| .op 0 rfl (neI rfl rfl) <| .nil0) ?_
      by_cases c35 : x7 = (a0.Sites.length : Int)
      · rw [if_pos c35] at h
        refine .condF rfl (bne_eq_false_iff_eq.mpr c35) ?_
        refine .skip <| .seq <| .seq <| .reg0 rfl (.op 0 rfl (asV rfl) <| .nil0) ?_
        refine .block <| .keepL [0] [(1, .ptr 0 1 10 0 0), (5, .val (.int .i64 0))] [⟨10, [(TGraph.lit a0)], 0, none⟩] (by decide) (by decide) ⟨.ptr rfl, .free rfl rfl, trivial⟩ ⟨⟨_, rfl, bcBox (all2_free rfl)⟩, trivial⟩ ?_
        obtain ⟨o2, hL2, h⟩ := h
        refine .loopB (r21_Check.b2 a0) (fun x10 => listEnv [(1, .ptr 0 1 10 0 0), (5, .val (.int .i64 x10))]) (fun x10 => [⟨10, [(TGraph.lit a0)], 0, none⟩]) (fun _ => listEnv [(1, .ptr 0 1 10 0 0)]) (fun _ => [⟨10, [(TGraph.lit a0)], 0, none⟩]) hL2 (fun r_ => r = r_) ?_ ?_ ?_
        · rintro ⟨⟩ rfl
          try dsimp only [Fin.on] at h
          refine .seq <| .seq <| .reg0 rfl (.op 0 rfl (asV rfl) <| .nil0) ?_
          refine .block <| .keepL [0] [(1, .ptr 0 1 10 0 0), (6, .val (.int .i64 0))] [⟨10, [(TGraph.lit a0)], 0, none⟩] (by decide) (by decide) ⟨.ptr rfl, .free rfl rfl, trivial⟩ ⟨⟨_, rfl, bcBox (all2_free rfl)⟩, trivial⟩ ?_
          obtain ⟨o3, hL3, h⟩ := h
          refine .loopB (r21_Check.b3 a0) (fun x11 => listEnv [(1, .ptr 0 1 10 0 0), (6, .val (.int .i64 x11))]) (fun x11 => [⟨10, [(TGraph.lit a0)], 0, none⟩]) (fun _ => listEnv []) (fun _ => []) hL3 (fun r_ => r = r_) ?_ ?_ ?_
          · rintro ⟨⟩ rfl
            try dsimp only [Fin.on] at h
            refine .seq <| .reg0 rfl (.op 0 rfl (asV rfl) <| .nil0) ?_
            replace h := h.symm
            subst h
            refine .keepL [] [(2, .val (.int .i64 0))] [] (by decide) (by decide) ⟨.free rfl rfl, trivial⟩ trivial ?_
            exact .ret rfl
          · rintro r_ rfl
            exact h
          · rintro x11 z3 h hn3 hx3 hr3
            dsimp only [r21_Check.b3] at h
            refine .seq <| .seq <| .reg0 rfl (.op 0 rfl (mvV rfl) <| .op 0 rfl (faP fa29_9 rfl) <| .op 0 rfl (ldP rfl sz27 ag27 rfl) <| .op 0 rfl (lnR (l := a0.Sinks) sl27 rfl) <| .op 0 rfl (ltI rfl rfl) <| .nil0) ?_
            by_cases c48 : x11 < (a0.Sinks.length : Int)
            · rw [if_pos c48] at h
              refine .condT rfl (decide_eq_true c48) ?_
              refine .skip <| .seq <| .block <| .seq ?_
              obtain ⟨g89_3, h⟩ := h
              obtain ⟨t89_9, g89_9, h⟩ := h
              obtain ⟨g89_15, h⟩ := h
              obtain ⟨t89_21, g89_21, h⟩ := h
              refine .reg1 (e1 := listEnv [(1, .ptr 0 1 10 0 0), (6, .val (.int .i64 x11)), (95, .val (.bool ((!t89_9) || (!t89_21))))]) (H1 := [⟨10, [(TGraph.lit a0)], 0, none⟩]) rfl ?_ ?_
              · by_cases c49 : t89_9 = true
                · exact .drawM [(23, 95, .val (.bool (!t89_21))), (22, 94, .val (.bool (!t89_21))), (21, 93, .val (.bool t89_21)), (20, 92, .val (.int .i64 (a0.Vars.length : Int))), (19, 91, .rows (a0.Vars.map cStr)), (18, 90, .ptr 0 1 10 0 0), (17, 89, .val (.int .i64 ((rdl a0.Sinks x11).X))), (16, 88, .cptr (TSink.lit (rdl a0.Sinks x11)) 0), (15, 87, .cptr (TSink.lit (rdl a0.Sinks x11)) 0), (14, 86, .val (.int .i64 x11)), (13, 85, .rows (a0.Sinks.map TSink.cells)), (12, 84, .ptr 0 1 10 0 9), (11, 83, .val (.bool (!t89_9))), (10, 82, .val (.bool (!t89_9))), (9, 81, .val (.bool t89_9)), (8, 80, .val (.int .i64 (a0.Of.length : Int))), (7, 79, .rows (a0.Of.map (cInt .i64))), (6, 78, .ptr 0 1 10 0 5), (5, 77, .val (.int .i64 ((rdl a0.Sinks x11).Node))), (4, 76, .cptr (TSink.lit (rdl a0.Sinks x11)) 1), (3, 75, .cptr (TSink.lit (rdl a0.Sinks x11)) 0), (2, 74, .val (.int .i64 x11)), (1, 73, .rows (a0.Sinks.map TSink.cells)), (0, 72, .ptr 0 1 10 0 9)] [] [[], [0], [], [1, 0, 2], [3, 1, 0, 2], [4, 3, 1, 0, 2], [], [6], [7, 6], [5, 4, 3, 1, 0, 2, 8, 7, 6], [9, 5, 4, 3, 1, 0, 2, 8, 7, 6], [10, 9, 5, 4, 3, 1, 0, 2, 8, 7, 6], [11, 10, 9, 5, 4, 3, 1, 0, 2, 8, 7, 6], [12, 11, 10, 9, 5, 4, 3, 1, 0, 2, 8, 7, 6], [11, 10, 9, 5, 4, 3, 1, 0, 2, 8, 7, 6], [13, 12, 11, 10, 9, 5, 4, 3, 1, 0, 2, 8, 7, 6, 14], [15, 13, 12, 11, 10, 9, 5, 4, 3, 1, 0, 2, 8, 7, 6, 14], [16, 15, 13, 12, 11, 10, 9, 5, 4, 3, 1, 0, 2, 8, 7, 6, 14], [11, 10, 9, 5, 4, 3, 1, 0, 2, 8, 7, 6], [18, 11, 10, 9, 5, 4, 3, 1, 0, 2, 8, 7, 6], [19, 18, 11, 10, 9, 5, 4, 3, 1, 0, 2, 8, 7, 6], [17, 16, 15, 13, 12, 11, 10, 9, 5, 4, 3, 1, 0, 2, 8, 7, 6, 14, 20, 19, 18], [21, 17, 16, 15, 13, 12, 11, 10, 9, 5, 4, 3, 1, 0, 2, 8, 7, 6, 14, 20, 19, 18], [11, 10, 9, 5, 4, 3, 1, 0, 2, 8, 7, 6, 22, 21, 17, 16, 15, 13, 12, 14, 20, 19, 18]] (by rfl) (by rfl) (by rfl) (by exact ⟨fun S hS hD hn => .one 0 hS hD hn rfl rfl (faP fa29_9 rfl) rfl rfl rfl, fun S hS hD hn => .one 0 hS hD hn rfl rfl (ldP rfl sz27 ag27 rfl) rfl rfl rfl, fun S hS hD hn => .one 0 hS hD hn rfl rfl (mvV rfl) rfl rfl rfl, fun S hS hD hn => .one 0 hS hD hn rfl rfl (ixR (l := a0.Sinks) (lit := TSink.lit) sl27 rfl rfl (fun _ => rfl) g89_3.1 g89_3.2) rfl rfl rfl, fun S hS hD hn => .one 0 hS hD hn rfl rfl (faC fa74_1 rfl) rfl rfl rfl, fun S hS hD hn => .one 0 hS hD hn rfl rfl (ldC rfl sz3 ag3 rfl) rfl rfl rfl, fun S hS hD hn => .one 0 hS hD hn rfl rfl (faP fa29_5 rfl) rfl rfl rfl, fun S hS hD hn => .one 0 hS hD hn rfl rfl (ldP rfl sz23 ag23 rfl) rfl rfl rfl, fun S hS hD hn => .one 0 hS hD hn rfl rfl (lnR (l := a0.Of) sl23 rfl) rfl rfl rfl, fun S hS hD hn => .oneI hS hD hn rfl rfl (callee_of rfl go36 rfl) (.pure rfl rfl (r21_in.D g89_9)) rfl rfl rfl, fun S hS hD hn => .one 0 hS hD hn rfl rfl (notB rfl) rfl rfl rfl, fun S hS hD hn => .one 0 hS hD hn rfl rfl (mvV rfl) rfl rfl rfl, fun S hS hD hn => .one 0 hS hD hn (gT rfl rfl rfl (bnotF c49)) rfl (faP fa29_9 rfl) rfl rfl rfl, fun S hS hD hn => .one 0 hS hD hn (gT rfl rfl rfl (bnotF c49)) rfl (ldP rfl sz27 ag27 rfl) rfl rfl rfl, fun S hS hD hn => .one 0 hS hD hn (gT rfl rfl rfl (bnotF c49)) rfl (mvV rfl) rfl rfl rfl, fun S hS hD hn => .one 0 hS hD hn (gT rfl rfl rfl (bnotF c49)) rfl (ixR (l := a0.Sinks) (lit := TSink.lit) sl27 rfl rfl (fun _ => rfl) (g89_15 c49).1 (g89_15 c49).2) rfl rfl rfl, fun S hS hD hn => .one 0 hS hD hn (gT rfl rfl rfl (bnotF c49)) rfl (faC fa74_0 rfl) rfl rfl rfl, fun S hS hD hn => .one 0 hS hD hn (gT rfl rfl rfl (bnotF c49)) rfl (ldC rfl sz3 ag3 rfl) rfl rfl rfl, fun S hS hD hn => .one 0 hS hD hn (gT rfl rfl rfl (bnotF c49)) rfl (faP fa29_0 rfl) rfl rfl rfl, fun S hS hD hn => .one 0 hS hD hn (gT rfl rfl rfl (bnotF c49)) rfl (ldP rfl sz22 ag22 rfl) rfl rfl rfl, fun S hS hD hn => .one 0 hS hD hn (gT rfl rfl rfl (bnotF c49)) rfl (lnR (l := a0.Vars) sl22 rfl) rfl rfl rfl, fun S hS hD hn => .oneI hS hD hn (gT rfl rfl rfl (bnotF c49)) rfl (callee_of rfl go36 rfl) (.pure rfl rfl (r21_in.D (g89_21 c49))) rfl rfl rfl, fun S hS hD hn => .one 0 hS hD hn (gT rfl rfl rfl (bnotF c49)) rfl (notB rfl) rfl rfl rfl, fun S hS hD hn => .one 0 hS hD hn rfl rfl (pkFV rfl (bnotF c49) rfl) rfl rfl rfl, trivial⟩) _ (by exact ⟨.ptr rfl, .free rfl rfl, cB rfl (mOrF (bnotF c49) rfl), trivial⟩) (by rfl)
                · exact .drawM [(23, 95, .val (.bool true)), (22, 94, .val undef), (21, 93, .val undef), (20, 92, .val undef), (19, 91, .val undef), (18, 90, .val undef), (17, 89, .val undef), (16, 88, .val undef), (15, 87, .val undef), (14, 86, .val undef), (13, 85, .val undef), (12, 84, .val undef), (11, 83, .val (.bool (!t89_9))), (10, 82, .val (.bool (!t89_9))), (9, 81, .val (.bool t89_9)), (8, 80, .val (.int .i64 (a0.Of.length : Int))), (7, 79, .rows (a0.Of.map (cInt .i64))), (6, 78, .ptr 0 1 10 0 5), (5, 77, .val (.int .i64 ((rdl a0.Sinks x11).Node))), (4, 76, .cptr (TSink.lit (rdl a0.Sinks x11)) 1), (3, 75, .cptr (TSink.lit (rdl a0.Sinks x11)) 0), (2, 74, .val (.int .i64 x11)), (1, 73, .rows (a0.Sinks.map TSink.cells)), (0, 72, .ptr 0 1 10 0 9)] [] [[], [0], [], [1, 0, 2], [3, 1, 0, 2], [4, 3, 1, 0, 2], [], [6], [7, 6], [5, 4, 3, 1, 0, 2, 8, 7, 6], [9, 5, 4, 3, 1, 0, 2, 8, 7, 6], [10, 9, 5, 4, 3, 1, 0, 2, 8, 7, 6], [11, 10, 9, 5, 4, 3, 1, 0, 2, 8, 7, 6], [12, 11, 10, 9, 5, 4, 3, 1, 0, 2, 8, 7, 6], [11, 10, 9, 5, 4, 3, 1, 0, 2, 8, 7, 6], [13, 12, 11, 10, 9, 5, 4, 3, 1, 0, 2, 8, 7, 6, 14], [15, 13, 12, 11, 10, 9, 5, 4, 3, 1, 0, 2, 8, 7, 6, 14], [16, 15, 13, 12, 11, 10, 9, 5, 4, 3, 1, 0, 2, 8, 7, 6, 14], [11, 10, 9, 5, 4, 3, 1, 0, 2, 8, 7, 6], [18, 11, 10, 9, 5, 4, 3, 1, 0, 2, 8, 7, 6], [19, 18, 11, 10, 9, 5, 4, 3, 1, 0, 2, 8, 7, 6], [17, 16, 15, 13, 12, 11, 10, 9, 5, 4, 3, 1, 0, 2, 8, 7, 6, 14, 20, 19, 18], [21, 17, 16, 15, 13, 12, 11, 10, 9, 5, 4, 3, 1, 0, 2, 8, 7, 6, 14, 20, 19, 18], [11, 10, 9, 5, 4, 3, 1, 0, 2, 8, 7, 6, 22, 21, 17, 16, 15, 13, 12, 14, 20, 19, 18]] (by rfl) (by rfl) (by rfl) (by exact ⟨fun S hS hD hn => .one 0 hS hD hn rfl rfl (faP fa29_9 rfl) rfl rfl rfl, fun S hS hD hn => .one 0 hS hD hn rfl rfl (ldP rfl sz27 ag27 rfl) rfl rfl rfl, fun S hS hD hn => .one 0 hS hD hn rfl rfl (mvV rfl) rfl rfl rfl, fun S hS hD hn => .one 0 hS hD hn rfl rfl (ixR (l := a0.Sinks) (lit := TSink.lit) sl27 rfl rfl (fun _ => rfl) g89_3.1 g89_3.2) rfl rfl rfl, fun S hS hD hn => .one 0 hS hD hn rfl rfl (faC fa74_1 rfl) rfl rfl rfl, fun S hS hD hn => .one 0 hS hD hn rfl rfl (ldC rfl sz3 ag3 rfl) rfl rfl rfl, fun S hS hD hn => .one 0 hS hD hn rfl rfl (faP fa29_5 rfl) rfl rfl rfl, fun S hS hD hn => .one 0 hS hD hn rfl rfl (ldP rfl sz23 ag23 rfl) rfl rfl rfl, fun S hS hD hn => .one 0 hS hD hn rfl rfl (lnR (l := a0.Of) sl23 rfl) rfl rfl rfl, fun S hS hD hn => .oneI hS hD hn rfl rfl (callee_of rfl go36 rfl) (.pure rfl rfl (r21_in.D g89_9)) rfl rfl rfl, fun S hS hD hn => .one 0 hS hD hn rfl rfl (notB rfl) rfl rfl rfl, fun S hS hD hn => .one 0 hS hD hn rfl rfl (mvV rfl) rfl rfl rfl, fun S hS hD hn => .oneNo hS hD (gF rfl rfl rfl (bnotT (Bool.eq_false_iff.mpr c49))) rfl hn rfl rfl rfl, fun S hS hD hn => .oneNo hS hD (gF rfl rfl rfl (bnotT (Bool.eq_false_iff.mpr c49))) rfl hn rfl rfl rfl, fun S hS hD hn => .oneNo hS hD (gF rfl rfl rfl (bnotT (Bool.eq_false_iff.mpr c49))) rfl hn rfl rfl rfl, fun S hS hD hn => .oneNo hS hD (gF rfl rfl rfl (bnotT (Bool.eq_false_iff.mpr c49))) rfl hn rfl rfl rfl, fun S hS hD hn => .oneNo hS hD (gF rfl rfl rfl (bnotT (Bool.eq_false_iff.mpr c49))) rfl hn rfl rfl rfl, fun S hS hD hn => .oneNo hS hD (gF rfl rfl rfl (bnotT (Bool.eq_false_iff.mpr c49))) rfl hn rfl rfl rfl, fun S hS hD hn => .oneNo hS hD (gF rfl rfl rfl (bnotT (Bool.eq_false_iff.mpr c49))) rfl hn rfl rfl rfl, fun S hS hD hn => .oneNo hS hD (gF rfl rfl rfl (bnotT (Bool.eq_false_iff.mpr c49))) rfl hn rfl rfl rfl, fun S hS hD hn => .oneNo hS hD (gF rfl rfl rfl (bnotT (Bool.eq_false_iff.mpr c49))) rfl hn rfl rfl rfl, fun S hS hD hn => .oneNo hS hD (gF rfl rfl rfl (bnotT (Bool.eq_false_iff.mpr c49))) rfl hn rfl rfl rfl, fun S hS hD hn => .oneNo hS hD (gF rfl rfl rfl (bnotT (Bool.eq_false_iff.mpr c49))) rfl hn rfl rfl rfl, fun S hS hD hn => .one 0 hS hD hn rfl rfl (pkTV rfl (bnotT (Bool.eq_false_iff.mpr c49)) rfl) rfl rfl rfl, trivial⟩) _ (by exact ⟨.ptr rfl, .free rfl rfl, cB rfl (mOrT (bnotT (Bool.eq_false_iff.mpr c49))), trivial⟩) (by rfl)
              by_cases c50 : ((!t89_9) || (!t89_21)) = true
              · rw [if_pos c50] at h
                refine .condT rfl c50 ?_
                refine .seq <| .reg0 rfl (.op 0 rfl (asV rfl) <| .nil0) ?_
                have q24 := hr3 _ h
                replace q24 := q24.symm
                subst q24
                refine .keepL [] [(2, .val (.int .i64 213))] [] (by decide) (by decide) ⟨.free rfl rfl, trivial⟩ trivial ?_
                exact .ret rfl
              · rw [if_neg c50] at h
                refine .condF rfl (Bool.eq_false_iff.mpr c50) ?_
                refine .skip <| .inBlock <| .reg0 rfl (.op 0 rfl (mvV rfl) <| .op 0 rfl (addI rfl rfl) <| .op 0 rfl (asV rfl) <| .nil0) ?_
                refine .keepL [0] [(1, .ptr 0 1 10 0 0), (6, .val (.int .i64 (IntKind.i64.wrap (x11 + 1))))] [⟨10, [(TGraph.lit a0)], 0, none⟩] (by decide) (by decide) ⟨.ptr rfl, .free rfl rfl, trivial⟩ ⟨⟨_, rfl, bcBox (all2_free rfl)⟩, trivial⟩ ?_
                exact hn3 _ h
            · rw [if_neg c48] at h
              refine .condF rfl (decide_eq_false c48) ?_
              refine .exit rfl <| .keepL [] [] [] (by decide) (by decide) trivial trivial ?_
              exact hx3 _ h
        · rintro r_ rfl
          exact h
        · rintro x10 z2 h hn2 hx2 hr2
          dsimp only [r21_Check.b2] at h
          refine .seq <| .seq <| .reg0 rfl (.op 0 rfl (mvV rfl) <| .op 0 rfl (faP fa29_8 rfl) <| .op 0 rfl (ldP rfl sz26 ag26 rfl) <| .op 0 rfl (lnR (l := a0.Points) sl26 rfl) <| .op 0 rfl (ltI rfl rfl) <| .nil0) ?_
          by_cases c40 : x10 < (a0.Points.length : Int)
          · rw [if_pos c40] at h
            refine .condT rfl (decide_eq_true c40) ?_
            refine .skip <| .seq <| .block <| .seq ?_
            obtain ⟨g76_3, h⟩ := h
            obtain ⟨t76_9, g76_9, h⟩ := h
            refine .reg1 (e1 := listEnv [(1, .ptr 0 1 10 0 0), (5, .val (.int .i64 x10)), (64, .val (.bool (!t76_9)))]) (H1 := [⟨10, [(TGraph.lit a0)], 0, none⟩]) rfl ?_ ?_
            · exact .drawM [(10, 64, .val (.bool (!t76_9))), (9, 63, .val (.bool t76_9)), (8, 62, .val (.int .i64 (a0.Of.length : Int))), (7, 61, .rows (a0.Of.map (cInt .i64))), (6, 60, .ptr 0 1 10 0 5), (5, 59, .val (.int .i64 ((rdl a0.Points x10).Node))), (4, 58, .cptr (TPoint.lit (rdl a0.Points x10)) 1), (3, 57, .cptr (TPoint.lit (rdl a0.Points x10)) 0), (2, 56, .val (.int .i64 x10)), (1, 55, .rows (a0.Points.map TPoint.cells)), (0, 54, .ptr 0 1 10 0 8)] [] [[], [0], [], [1, 0, 2], [3, 1, 0, 2], [4, 3, 1, 0, 2], [], [6], [7, 6], [5, 4, 3, 1, 0, 2, 8, 7, 6], [9, 5, 4, 3, 1, 0, 2, 8, 7, 6]] (by rfl) (by rfl) (by rfl) (by exact ⟨fun S hS hD hn => .one 0 hS hD hn rfl rfl (faP fa29_8 rfl) rfl rfl rfl, fun S hS hD hn => .one 0 hS hD hn rfl rfl (ldP rfl sz26 ag26 rfl) rfl rfl rfl, fun S hS hD hn => .one 0 hS hD hn rfl rfl (mvV rfl) rfl rfl rfl, fun S hS hD hn => .one 0 hS hD hn rfl rfl (ixR (l := a0.Points) (lit := TPoint.lit) sl26 rfl rfl (fun _ => rfl) g76_3.1 g76_3.2) rfl rfl rfl, fun S hS hD hn => .one 0 hS hD hn rfl rfl (faC fa83_1 rfl) rfl rfl rfl, fun S hS hD hn => .one 0 hS hD hn rfl rfl (ldC rfl sz3 ag3 rfl) rfl rfl rfl, fun S hS hD hn => .one 0 hS hD hn rfl rfl (faP fa29_5 rfl) rfl rfl rfl, fun S hS hD hn => .one 0 hS hD hn rfl rfl (ldP rfl sz23 ag23 rfl) rfl rfl rfl, fun S hS hD hn => .one 0 hS hD hn rfl rfl (lnR (l := a0.Of) sl23 rfl) rfl rfl rfl, fun S hS hD hn => .oneI hS hD hn rfl rfl (callee_of rfl go36 rfl) (.pure rfl rfl (r21_in.D g76_9)) rfl rfl rfl, fun S hS hD hn => .one 0 hS hD hn rfl rfl (notB rfl) rfl rfl rfl, trivial⟩) _ (by exact ⟨.ptr rfl, .free rfl rfl, .free rfl rfl, trivial⟩) (by rfl)
            by_cases c41 : t76_9 = true
            · rw [if_pos c41] at h
              refine .condF rfl (bnotF c41) ?_
              refine .skip <| .inBlock <| .reg0 rfl (.op 0 rfl (mvV rfl) <| .op 0 rfl (addI rfl rfl) <| .op 0 rfl (asV rfl) <| .nil0) ?_
              refine .keepL [0] [(1, .ptr 0 1 10 0 0), (5, .val (.int .i64 (IntKind.i64.wrap (x10 + 1))))] [⟨10, [(TGraph.lit a0)], 0, none⟩] (by decide) (by decide) ⟨.ptr rfl, .free rfl rfl, trivial⟩ ⟨⟨_, rfl, bcBox (all2_free rfl)⟩, trivial⟩ ?_
              exact hn2 _ h
            · rw [if_neg c41] at h
              refine .condT rfl (bnotT (Bool.eq_false_iff.mpr c41)) ?_
              refine .seq <| .reg0 rfl (.op 0 rfl (asV rfl) <| .nil0) ?_
              have q21 := hr2 _ h
              replace q21 := q21.symm
              subst q21
              refine .keepL [] [(2, .val (.int .i64 213))] [] (by decide) (by decide) ⟨.free rfl rfl, trivial⟩ trivial ?_
              exact .ret rfl
          · rw [if_neg c40] at h
            refine .condF rfl (decide_eq_false c40) ?_
            refine .exit rfl <| .keepL [0] [(1, .ptr 0 1 10 0 0)] [⟨10, [(TGraph.lit a0)], 0, none⟩] (by decide) (by decide) ⟨.ptr rfl, trivial⟩ ⟨⟨_, rfl, bcBox (all2_free rfl)⟩, trivial⟩ ?_
            exact hx2 _ h
      · rw [if_neg c35] at h
        refine .condT rfl (bne_iff_ne.mpr c35) ?_
        refine .seq <| .reg0 rfl (.op 0 rfl (asV rfl) <| .nil0) ?_
        replace h := h.symm
        subst h
        refine .keepL [] [(2, .val (.int .i64 213))] [] (by decide) (by decide) ⟨.free rfl rfl, trivial⟩ trivial ?_
        exact .ret rfl
    · rintro r_ rfl
      exact h
    · rintro ⟨x3, x4⟩ z1 h hn1 hx1 hr1
      dsimp only [r21_Check.b1] at h
      refine .seq <| .seq <| .reg0 rfl (.op 0 rfl (mvV rfl) <| .op 0 rfl (faP fa29_6 rfl) <| .op 0 rfl (ldP rfl sz24 ag24 rfl) <| .op 0 rfl (lnR (l := a0.Steps) sl24 rfl) <| .op 0 rfl (ltI rfl rfl) <| .nil0) ?_
      by_cases c24 : x4 < (a0.Steps.length : Int)
      · rw [if_pos c24] at h
        refine .condT rfl (decide_eq_true c24) ?_
        refine .skip <| .seq <| .block <| .seq <| .seq ?_
        obtain ⟨g55_4, h⟩ := h
        obtain ⟨t55_6, g55_6, h⟩ := h
        refine .reg1 (e1 := listEnv [(1, .ptr 0 1 10 0 0), (3, .val (.int .i64 x3)), (4, .val (.int .i64 x4)), (24, .val (.bool (!t55_6)))]) (H1 := [⟨10, [(TGraph.lit a0)], 0, none⟩]) rfl ?_ ?_
        · exact .drawM [(7, 24, .val (.bool (!t55_6))), (6, 23, .val (.bool t55_6)), (5, 22, .agg (TStep.lit (rdl a0.Steps x4))), (4, 21, .cptr (TStep.lit (rdl a0.Steps x4)) 0), (3, 20, .val (.int .i64 x4)), (2, 19, .rows (a0.Steps.map TStep.cells)), (1, 18, .ptr 0 1 10 0 6), (0, 17, .agg (TGraph.lit a0))] [] [[], [], [1], [], [2, 1, 3], [4, 2, 1, 3], [0, 5, 4, 2, 1, 3], [6, 0, 5, 4, 2, 1, 3]] (by rfl) (by rfl) (by rfl) (by exact ⟨fun S hS hD hn => .one 0 hS hD hn rfl rfl (ldG rfl sz29 ag29 rfl) rfl rfl rfl, fun S hS hD hn => .one 0 hS hD hn rfl rfl (faP fa29_6 rfl) rfl rfl rfl, fun S hS hD hn => .one 0 hS hD hn rfl rfl (ldP rfl sz24 ag24 rfl) rfl rfl rfl, fun S hS hD hn => .one 0 hS hD hn rfl rfl (mvV rfl) rfl rfl rfl, fun S hS hD hn => .one 0 hS hD hn rfl rfl (ixR (l := a0.Steps) (lit := TStep.lit) sl24 rfl rfl (fun _ => rfl) g55_4.1 g55_4.2) rfl rfl rfl, fun S hS hD hn => .one 0 hS hD hn rfl rfl (ldCG rfl sz47 ag47 rfl) rfl rfl rfl, fun S hS hD hn => .oneI hS hD hn rfl rfl (callee_of rfl go35 rfl) (.pure rfl rfl (r21_step.D g55_6)) rfl rfl rfl, fun S hS hD hn => .one 0 hS hD hn rfl rfl (notB rfl) rfl rfl rfl, trivial⟩) _ (by exact ⟨.ptr rfl, .free rfl rfl, .free rfl rfl, .free rfl rfl, trivial⟩) (by rfl)
        by_cases c30 : t55_6 = true
        · rw [if_pos c30] at h
          refine .condF rfl (bnotF c30) ?_
          refine .skip <| .seq ?_
          obtain ⟨g56_3, h⟩ := h
          refine .reg0 rfl (.op 0 rfl (faP fa29_6 rfl) <| .op 0 rfl (ldP rfl sz24 ag24 rfl) <| .op 0 rfl (mvV rfl) <| .op 0 rfl (ixR (l := a0.Steps) (lit := TStep.lit) sl24 rfl rfl (fun _ => rfl) g56_3.1 g56_3.2) <| .op 0 rfl (faC fa47_2 rfl) <| .op 0 rfl (ldC rfl sz45 ag45 rfl) <| .op 0 rfl (eqI rfl rfl) <| .nil0) ?_
          refine .consJ (fun s_ => r21_Check.j1 x4 s_ z1) (fun x9 => listEnv [(1, .ptr 0 1 10 0 0), (3, .val (.int .i64 x9)), (4, .val (.int .i64 x4))]) (fun x9 => [⟨10, [(TGraph.lit a0)], 0, none⟩]) ?_ fun hJ1 => ?_
          · rintro x9 h
            unfold r21_Check.j1 at h
            try dsimp only at h
            refine .inBlock <| .reg0 rfl (.op 0 rfl (mvV rfl) <| .op 0 rfl (addI rfl rfl) <| .op 0 rfl (asV rfl) <| .nil0) ?_
            refine .keepL [0] [(1, .ptr 0 1 10 0 0), (3, .val (.int .i64 x9)), (4, .val (.int .i64 (IntKind.i64.wrap (x4 + 1))))] [⟨10, [(TGraph.lit a0)], 0, none⟩] (by decide) (by decide) ⟨.ptr rfl, .free rfl rfl, .free rfl rfl, trivial⟩ ⟨⟨_, rfl, bcBox (all2_free rfl)⟩, trivial⟩ ?_
            exact hn1 _ h
          · by_cases c33 : (rdl a0.Steps x4).Kind = 8
            · rw [if_pos c33] at h
              refine .condT rfl (beq_iff_eq.mpr c33) ?_
              refine .seq <| .seq ?_
              obtain ⟨g61_3, h⟩ := h
              refine .reg0 rfl (.op 0 rfl (faP fa29_6 rfl) <| .op 0 rfl (ldP rfl sz24 ag24 rfl) <| .op 0 rfl (mvV rfl) <| .op 0 rfl (ixR (l := a0.Steps) (lit := TStep.lit) sl24 rfl rfl (fun _ => rfl) g61_3.1 g61_3.2) <| .op 0 rfl (faC fa47_6 rfl) <| .op 0 rfl (ldC rfl sz3 ag3 rfl) <| .op 0 rfl (mvV rfl) <| .op 0 rfl (neI rfl rfl) <| .nil0) ?_
              by_cases c34 : (rdl a0.Steps x4).Site = x3
              · rw [if_pos c34] at h
                refine .condF rfl (bne_eq_false_iff_eq.mpr c34) ?_
                refine .skip <| .reg0 rfl (.op 0 rfl (mvV rfl) <| .op 0 rfl (addI rfl rfl) <| .op 0 rfl (asV rfl) <| .nil0) ?_
                refine .keepL [0] [(1, .ptr 0 1 10 0 0), (3, .val (.int .i64 (IntKind.i64.wrap (x3 + 1)))), (4, .val (.int .i64 x4))] [⟨10, [(TGraph.lit a0)], 0, none⟩] (by decide) (by decide) ⟨.ptr rfl, .free rfl rfl, .free rfl rfl, trivial⟩ ⟨⟨_, rfl, bcBox (all2_free rfl)⟩, trivial⟩ ?_
                exact hJ1 _ h
              · rw [if_neg c34] at h
                refine .condT rfl (bne_iff_ne.mpr c34) ?_
                refine .seq <| .reg0 rfl (.op 0 rfl (asV rfl) <| .nil0) ?_
                have q17 := hr1 _ h
                replace q17 := q17.symm
                subst q17
                refine .keepL [] [(2, .val (.int .i64 213))] [] (by decide) (by decide) ⟨.free rfl rfl, trivial⟩ trivial ?_
                exact .ret rfl
            · rw [if_neg c33] at h
              refine .condF rfl (beq_eq_false_iff_ne.mpr c33) ?_
              refine .skip <| .keepL [0] [(1, .ptr 0 1 10 0 0), (3, .val (.int .i64 x3)), (4, .val (.int .i64 x4))] [⟨10, [(TGraph.lit a0)], 0, none⟩] (by decide) (by decide) ⟨.ptr rfl, .free rfl rfl, .free rfl rfl, trivial⟩ ⟨⟨_, rfl, bcBox (all2_free rfl)⟩, trivial⟩ ?_
              exact hJ1 _ h
        · rw [if_neg c30] at h
          refine .condT rfl (bnotT (Bool.eq_false_iff.mpr c30)) ?_
          refine .seq <| .reg0 rfl (.op 0 rfl (asV rfl) <| .nil0) ?_
          have q18 := hr1 _ h
          replace q18 := q18.symm
          subst q18
          refine .keepL [] [(2, .val (.int .i64 213))] [] (by decide) (by decide) ⟨.free rfl rfl, trivial⟩ trivial ?_
          exact .ret rfl
      · rw [if_neg c24] at h
        refine .condF rfl (decide_eq_false c24) ?_
        refine .exit rfl <| .keepL [0] [(1, .ptr 0 1 10 0 0), (3, .val (.int .i64 x3))] [⟨10, [(TGraph.lit a0)], 0, none⟩] (by decide) (by decide) ⟨.ptr rfl, .free rfl rfl, trivial⟩ ⟨⟨_, rfl, bcBox (all2_free rfl)⟩, trivial⟩ ?_
        exact hx1 _ h
  · rw [if_neg c1] at h
    refine .condT rfl (bnotT (Bool.eq_false_iff.mpr c1)) ?_
    refine .seq <| .reg0 rfl (.op 0 rfl (asV rfl) <| .nil0) ?_
    replace h := h.symm
    subst h
    refine .keepL [] [(2, .val (.int .i64 213))] [] (by decide) (by decide) ⟨.free rfl rfl, trivial⟩ trivial ?_
    exact .ret rfl
def r22_state.b1 (a1 : TState) : Int → Rnd Int Unit Bool → Prop := fun x1 z1 => if x1 < 64 then ((((0 : Int) ≤ (IntKind.u64.wrap x1))) ∧ if (bitOp .and .u64 (shrI .u64 a1.Marks (IntKind.u64.wrap x1)) 1) = 1 then (z1 = .ret false) else (z1 = .next (IntKind.i64.wrap (x1 + 1)))) else (z1 = .exit ())
def r22_state.b2 (a0 : TGraph) (a1 : TState) : (Int × Int) → Rnd ((Int × Int)) Unit Bool → Prop := fun (x2, x3) z2 => if x3 < (a1.Stack.length : Int) then (((InR x3 a1.Stack.length)) ∧ (¬ ((rdl a1.Stack x3) < 0) → ¬ ((rdl a1.Stack x3) ≥ (a0.Sites.length : Int)) → (InR (rdl a1.Stack x3) a0.Sites.length)) ∧ if ((decide ((rdl a1.Stack x3) < 0)) || ((decide ((rdl a1.Stack x3) ≥ (a0.Sites.length : Int))) || ((rdl a0.Sites (rdl a1.Stack x3)).Proc != x2))) = true then (z2 = .ret false) else (((InR (rdl a1.Stack x3) a0.Sites.length)) ∧ ((InR ((rdl a0.Sites (rdl a1.Stack x3)).From) a0.Of.length)) ∧ z2 = .next ((rdl a0.Of ((rdl a0.Sites (rdl a1.Stack x3)).From)), (IntKind.i64.wrap (x3 + 1))))) else (z2 = .exit ())
def r22_state.f (a0 : TGraph) (a1 : TState) (r : Bool) : Prop :=
  if ((decide (a1.Node < 0)) || ((decide (a1.Node ≥ (a0.Of.length : Int))) || ((!((a1.Env.length : Int) == (a0.Vars.length : Int))) || (decide ((a1.Stack.length : Int) > 4096))))) = true then (r = false) else (∃ o1 : Fin Unit Bool, Loop (r22_state.b1 a1) (a0.Vars.length : Int) o1 ∧ o1.on (fun _ => ((InR a1.Node a0.Of.length)) ∧ ∃ o2 : Fin Unit Bool, Loop (r22_state.b2 a0 a1) ((rdl a0.Of a1.Node), 0) o2 ∧ o2.on (fun _ => r = true) (fun r_ => r = r_)) (fun r_ => r = r_))
theorem r22_state.D {a0 : TGraph} {a1 : TState} {r : Bool} (h : r22_state.f a0 a1 r) : D Tryd.prog X (.callH 26 [.agg (TGraph.lit a0), .agg (TState.lit a1)] [] (.val (.bool r)) []) := by
  unfold r22_state.f at h
  refine .enter 96 0 fn26 rfl rfl rfl ?_
  refine .seq <| .room 0 <| .room 0 <| .reg0 rfl (.op 0 rfl (bxP (s := 10) (cs := (TGraph.lit a0)) rfl ⟨rfl, by decide, rfl⟩ rfl) <| .op 1 rfl (bxP (s := 4) (cs := (TState.lit a1)) rfl ⟨rfl, by decide, rfl⟩ rfl) <| .op 0 rfl (asV rfl) <| .nil0) ?_
  refine .seq <| .seq ?_
  refine .reg0 (e1 := listEnv [(2, .ptr 0 1 10 0 0), (3, .ptr 1 1 4 0 0), (34, .val (.bool ((decide (a1.Node < 0)) || ((decide (a1.Node ≥ (a0.Of.length : Int))) || ((!((a1.Env.length : Int) == (a0.Vars.length : Int))) || (decide ((a1.Stack.length : Int) > 4096)))))))]) (H1 := [⟨10, [(TGraph.lit a0)], 0, none⟩, ⟨4, [(TState.lit a1)], 0, none⟩]) rfl ?_ ?_
  · by_cases c1 : a1.Node < 0
    · exact (.op 0 rfl (faP fa33_0 rfl) <| .op 0 rfl (ldP rfl sz3 ag3 rfl) <| .op 0 rfl (ltI rfl rfl) <| .op 0 rfl (mvV rfl) <| .no (gF rfl rfl rfl (decide_eq_true c1)) <| .no (gF rfl rfl rfl (decide_eq_true c1)) <| .no (gF rfl rfl rfl (decide_eq_true c1)) <| .no (gF rfl rfl rfl (decide_eq_true c1)) <| .no (gF rfl rfl rfl (decide_eq_true c1)) <| .no (gF rfl rfl rfl (decide_eq_true c1)) <| .op 0 rfl (pkTV rfl (decide_eq_true c1) rfl) <| .op 0 rfl (mvV rfl) <| .no (gF rfl rfl rfl rfl) <| .no (gF rfl rfl rfl rfl) <| .no (gF rfl rfl rfl rfl) <| .no (gF rfl rfl rfl rfl) <| .no (gF rfl rfl rfl rfl) <| .no (gF rfl rfl rfl rfl) <| .no (gF rfl rfl rfl rfl) <| .op 0 rfl (pkTV rfl rfl rfl) <| .op 0 rfl (mvV rfl) <| .no (gF rfl rfl rfl rfl) <| .no (gF rfl rfl rfl rfl) <| .no (gF rfl rfl rfl rfl) <| .no (gF rfl rfl rfl rfl) <| .op 0 rfl (pkTV rfl rfl rfl) <| .nilL _ ⟨.ptr rfl, .ptr rfl, cB rfl (mOrT (decide_eq_true c1)), trivial⟩)
    · by_cases c2 : a1.Node ≥ (a0.Of.length : Int)
      · exact (.op 0 rfl (faP fa33_0 rfl) <| .op 0 rfl (ldP rfl sz3 ag3 rfl) <| .op 0 rfl (ltI rfl rfl) <| .op 0 rfl (mvV rfl) <| .op 0 (gT rfl rfl rfl (decide_eq_false c1)) (faP fa33_0 rfl) <| .op 0 (gT rfl rfl rfl (decide_eq_false c1)) (ldP rfl sz3 ag3 rfl) <| .op 0 (gT rfl rfl rfl (decide_eq_false c1)) (faP fa29_5 rfl) <| .op 0 (gT rfl rfl rfl (decide_eq_false c1)) (ldP rfl sz23 ag23 rfl) <| .op 0 (gT rfl rfl rfl (decide_eq_false c1)) (lnR (l := a0.Of) sl23 rfl) <| .op 0 (gT rfl rfl rfl (decide_eq_false c1)) (geI rfl rfl) <| .op 0 rfl (pkFV rfl (decide_eq_false c1) rfl) <| .op 0 rfl (mvV rfl) <| .no (gF rfl rfl rfl (decide_eq_true c2)) <| .no (gF rfl rfl rfl (decide_eq_true c2)) <| .no (gF rfl rfl rfl (decide_eq_true c2)) <| .no (gF rfl rfl rfl (decide_eq_true c2)) <| .no (gF rfl rfl rfl (decide_eq_true c2)) <| .no (gF rfl rfl rfl (decide_eq_true c2)) <| .no (gF rfl rfl rfl (decide_eq_true c2)) <| .op 0 rfl (pkTV rfl (decide_eq_true c2) rfl) <| .op 0 rfl (mvV rfl) <| .no (gF rfl rfl rfl rfl) <| .no (gF rfl rfl rfl rfl) <| .no (gF rfl rfl rfl rfl) <| .no (gF rfl rfl rfl rfl) <| .op 0 rfl (pkTV rfl rfl rfl) <| .nilL _ ⟨.ptr rfl, .ptr rfl, cB rfl (mOrF (decide_eq_false c1) (mOrT (decide_eq_true c2))), trivial⟩)
      · by_cases c3 : (a1.Env.length : Int) = (a0.Vars.length : Int)
        · exact (.op 0 rfl (faP fa33_0 rfl) <| .op 0 rfl (ldP rfl sz3 ag3 rfl) <| .op 0 rfl (ltI rfl rfl) <| .op 0 rfl (mvV rfl) <| .op 0 (gT rfl rfl rfl (decide_eq_false c1)) (faP fa33_0 rfl) <| .op 0 (gT rfl rfl rfl (decide_eq_false c1)) (ldP rfl sz3 ag3 rfl) <| .op 0 (gT rfl rfl rfl (decide_eq_false c1)) (faP fa29_5 rfl) <| .op 0 (gT rfl rfl rfl (decide_eq_false c1)) (ldP rfl sz23 ag23 rfl) <| .op 0 (gT rfl rfl rfl (decide_eq_false c1)) (lnR (l := a0.Of) sl23 rfl) <| .op 0 (gT rfl rfl rfl (decide_eq_false c1)) (geI rfl rfl) <| .op 0 rfl (pkFV rfl (decide_eq_false c1) rfl) <| .op 0 rfl (mvV rfl) <| .op 0 (gT rfl rfl rfl (decide_eq_false c2)) (faP fa33_1 rfl) <| .op 0 (gT rfl rfl rfl (decide_eq_false c2)) (ldP rfl sz30 ag30 rfl) <| .op 0 (gT rfl rfl rfl (decide_eq_false c2)) (lnR (l := a1.Env) sl30 rfl) <| .op 0 (gT rfl rfl rfl (decide_eq_false c2)) (faP fa29_0 rfl) <| .op 0 (gT rfl rfl rfl (decide_eq_false c2)) (ldP rfl sz22 ag22 rfl) <| .op 0 (gT rfl rfl rfl (decide_eq_false c2)) (lnR (l := a0.Vars) sl22 rfl) <| .op 0 (gT rfl rfl rfl (decide_eq_false c2)) (neI rfl rfl) <| .op 0 rfl (pkFV rfl (decide_eq_false c2) rfl) <| .op 0 rfl (mvV rfl) <| .op 0 (gT rfl rfl rfl (bne_eq_false_iff_eq.mpr c3)) (faP fa33_3 rfl) <| .op 0 (gT rfl rfl rfl (bne_eq_false_iff_eq.mpr c3)) (ldP rfl sz23 ag23 rfl) <| .op 0 (gT rfl rfl rfl (bne_eq_false_iff_eq.mpr c3)) (lnR (l := a1.Stack) sl23 rfl) <| .op 0 (gT rfl rfl rfl (bne_eq_false_iff_eq.mpr c3)) (gtI rfl rfl) <| .op 0 rfl (pkFV rfl (bne_eq_false_iff_eq.mpr c3) rfl) <| .nilL _ ⟨.ptr rfl, .ptr rfl, cB rfl (mOrF (decide_eq_false c1) (mOrF (decide_eq_false c2) (mOrF (bnotF (beq_iff_eq.mpr c3)) rfl))), trivial⟩)
        · exact (.op 0 rfl (faP fa33_0 rfl) <| .op 0 rfl (ldP rfl sz3 ag3 rfl) <| .op 0 rfl (ltI rfl rfl) <| .op 0 rfl (mvV rfl) <| .op 0 (gT rfl rfl rfl (decide_eq_false c1)) (faP fa33_0 rfl) <| .op 0 (gT rfl rfl rfl (decide_eq_false c1)) (ldP rfl sz3 ag3 rfl) <| .op 0 (gT rfl rfl rfl (decide_eq_false c1)) (faP fa29_5 rfl) <| .op 0 (gT rfl rfl rfl (decide_eq_false c1)) (ldP rfl sz23 ag23 rfl) <| .op 0 (gT rfl rfl rfl (decide_eq_false c1)) (lnR (l := a0.Of) sl23 rfl) <| .op 0 (gT rfl rfl rfl (decide_eq_false c1)) (geI rfl rfl) <| .op 0 rfl (pkFV rfl (decide_eq_false c1) rfl) <| .op 0 rfl (mvV rfl) <| .op 0 (gT rfl rfl rfl (decide_eq_false c2)) (faP fa33_1 rfl) <| .op 0 (gT rfl rfl rfl (decide_eq_false c2)) (ldP rfl sz30 ag30 rfl) <| .op 0 (gT rfl rfl rfl (decide_eq_false c2)) (lnR (l := a1.Env) sl30 rfl) <| .op 0 (gT rfl rfl rfl (decide_eq_false c2)) (faP fa29_0 rfl) <| .op 0 (gT rfl rfl rfl (decide_eq_false c2)) (ldP rfl sz22 ag22 rfl) <| .op 0 (gT rfl rfl rfl (decide_eq_false c2)) (lnR (l := a0.Vars) sl22 rfl) <| .op 0 (gT rfl rfl rfl (decide_eq_false c2)) (neI rfl rfl) <| .op 0 rfl (pkFV rfl (decide_eq_false c2) rfl) <| .op 0 rfl (mvV rfl) <| .no (gF rfl rfl rfl (bne_iff_ne.mpr c3)) <| .no (gF rfl rfl rfl (bne_iff_ne.mpr c3)) <| .no (gF rfl rfl rfl (bne_iff_ne.mpr c3)) <| .no (gF rfl rfl rfl (bne_iff_ne.mpr c3)) <| .op 0 rfl (pkTV rfl (bne_iff_ne.mpr c3) rfl) <| .nilL _ ⟨.ptr rfl, .ptr rfl, cB rfl (mOrF (decide_eq_false c1) (mOrF (decide_eq_false c2) (mOrT (bnotT (beq_eq_false_iff_ne.mpr c3))))), trivial⟩)
  by_cases c4 : ((decide (a1.Node < 0)) || ((decide (a1.Node ≥ (a0.Of.length : Int))) || ((!((a1.Env.length : Int) == (a0.Vars.length : Int))) || (decide ((a1.Stack.length : Int) > 4096))))) = true
  · rw [if_pos c4] at h
    refine .condT rfl c4 ?_
    refine .seq <| .reg0 rfl (.op 0 rfl (asV rfl) <| .nil0) ?_
    replace h := h.symm
    subst h
    refine .keepL [] [(4, .val (.bool false))] [] (by decide) (by decide) ⟨.free rfl rfl, trivial⟩ trivial ?_
    exact .ret rfl
  · rw [if_neg c4] at h
    refine .condF rfl (Bool.eq_false_iff.mpr c4) ?_
    refine .skip <| .seq <| .seq <| .reg0 rfl (.op 0 rfl (faP fa29_0 rfl) <| .op 0 rfl (ldP rfl sz22 ag22 rfl) <| .op 0 rfl (lnR (l := a0.Vars) sl22 rfl) <| .op 0 rfl (asV rfl) <| .nil0) ?_
    refine .block <| .keepL [0, 1] [(2, .ptr 0 1 10 0 0), (3, .ptr 1 1 4 0 0), (5, .val (.int .i64 (a0.Vars.length : Int)))] [⟨10, [(TGraph.lit a0)], 0, none⟩, ⟨4, [(TState.lit a1)], 0, none⟩] (by decide) (by decide) ⟨.ptr rfl, .ptr rfl, .free rfl rfl, trivial⟩ ⟨⟨_, rfl, bcBox (all2_free rfl)⟩, ⟨_, rfl, bcBox (all2_free rfl)⟩, trivial⟩ ?_
    obtain ⟨o1, hL1, h⟩ := h
    refine .loopB (r22_state.b1 a1) (fun x1 => listEnv [(2, .ptr 0 1 10 0 0), (3, .ptr 1 1 4 0 0), (5, .val (.int .i64 x1))]) (fun x1 => [⟨10, [(TGraph.lit a0)], 0, none⟩, ⟨4, [(TState.lit a1)], 0, none⟩]) (fun _ => listEnv [(2, .ptr 0 1 10 0 0), (3, .ptr 1 1 4 0 0)]) (fun _ => [⟨10, [(TGraph.lit a0)], 0, none⟩, ⟨4, [(TState.lit a1)], 0, none⟩]) hL1 (fun r_ => r = r_) ?_ ?_ ?_
    · rintro ⟨⟩ rfl
      try dsimp only [Fin.on] at h
      refine .seq ?_
      obtain ⟨g17_4, h⟩ := h
      refine .reg0 rfl (.op 0 rfl (faP fa29_5 rfl) <| .op 0 rfl (ldP rfl sz23 ag23 rfl) <| .op 0 rfl (faP fa33_0 rfl) <| .op 0 rfl (ldP rfl sz3 ag3 rfl) <| .op 0 rfl (ixR (l := a0.Of) (lit := (cInt .i64)) sl23 rfl rfl (fun _ => rfl) g17_4.1 g17_4.2) <| .op 0 rfl (ldC rfl sz3 ag3 rfl) <| .op 0 rfl (asV rfl) <| .nil0) ?_
      refine .seq <| .seq <| .reg0 rfl (.op 0 rfl (asV rfl) <| .nil0) ?_
      refine .block <| .keepL [0, 1] [(2, .ptr 0 1 10 0 0), (3, .ptr 1 1 4 0 0), (6, .val (.int .i64 (rdl a0.Of a1.Node))), (7, .val (.int .i64 0))] [⟨10, [(TGraph.lit a0)], 0, none⟩, ⟨4, [(TState.lit a1)], 0, none⟩] (by decide) (by decide) ⟨.ptr rfl, .ptr rfl, .free rfl rfl, .free rfl rfl, trivial⟩ ⟨⟨_, rfl, bcBox (all2_free rfl)⟩, ⟨_, rfl, bcBox (all2_free rfl)⟩, trivial⟩ ?_
      obtain ⟨o2, hL2, h⟩ := h
      refine .loopB (r22_state.b2 a0 a1) (fun (x2, x3) => listEnv [(2, .ptr 0 1 10 0 0), (3, .ptr 1 1 4 0 0), (6, .val (.int .i64 x2)), (7, .val (.int .i64 x3))]) (fun (x2, x3) => [⟨10, [(TGraph.lit a0)], 0, none⟩, ⟨4, [(TState.lit a1)], 0, none⟩]) (fun _ => listEnv []) (fun _ => []) hL2 (fun r_ => r = r_) ?_ ?_ ?_
      · rintro ⟨⟩ rfl
        try dsimp only [Fin.on] at h
        refine .seq <| .reg0 rfl (.op 0 rfl (asV rfl) <| .nil0) ?_
        replace h := h.symm
        subst h
        refine .keepL [] [(4, .val (.bool true))] [] (by decide) (by decide) ⟨.free rfl rfl, trivial⟩ trivial ?_
        exact .ret rfl
      · rintro r_ rfl
        exact h
      · rintro ⟨x2, x3⟩ z2 h hn2 hx2 hr2
        dsimp only [r22_state.b2] at h
        refine .seq <| .seq <| .reg0 rfl (.op 0 rfl (mvV rfl) <| .op 0 rfl (faP fa33_3 rfl) <| .op 0 rfl (ldP rfl sz23 ag23 rfl) <| .op 0 rfl (lnR (l := a1.Stack) sl23 rfl) <| .op 0 rfl (ltI rfl rfl) <| .nil0) ?_
        by_cases c19 : x3 < (a1.Stack.length : Int)
        · rw [if_pos c19] at h
          refine .condT rfl (decide_eq_true c19) ?_
          refine .skip <| .seq <| .block <| .seq ?_
          obtain ⟨g32_3, h⟩ := h
          refine .reg0 rfl (.op 0 rfl (faP fa33_3 rfl) <| .op 0 rfl (ldP rfl sz23 ag23 rfl) <| .op 0 rfl (mvV rfl) <| .op 0 rfl (ixR (l := a1.Stack) (lit := (cInt .i64)) sl23 rfl rfl (fun _ => rfl) g32_3.1 g32_3.2) <| .op 0 rfl (ldC rfl sz3 ag3 rfl) <| .op 0 rfl (asV rfl) <| .nil0) ?_
          refine .seq <| .seq ?_
          obtain ⟨g33_13, h⟩ := h
          refine .reg0 (e1 := listEnv [(2, .ptr 0 1 10 0 0), (3, .ptr 1 1 4 0 0), (7, .val (.int .i64 x3)), (8, .val (.int .i64 (rdl a1.Stack x3))), (85, .val (.bool ((decide ((rdl a1.Stack x3) < 0)) || ((decide ((rdl a1.Stack x3) ≥ (a0.Sites.length : Int))) || ((rdl a0.Sites (rdl a1.Stack x3)).Proc != x2)))))]) (H1 := [⟨10, [(TGraph.lit a0)], 0, none⟩, ⟨4, [(TState.lit a1)], 0, none⟩]) rfl ?_ ?_
          · by_cases c20 : (rdl a1.Stack x3) < 0
            · exact (.op 0 rfl (mvV rfl) <| .op 0 rfl (ltI rfl rfl) <| .op 0 rfl (mvV rfl) <| .no (gF rfl rfl rfl (decide_eq_true c20)) <| .no (gF rfl rfl rfl (decide_eq_true c20)) <| .no (gF rfl rfl rfl (decide_eq_true c20)) <| .no (gF rfl rfl rfl (decide_eq_true c20)) <| .no (gF rfl rfl rfl (decide_eq_true c20)) <| .op 0 rfl (pkTV rfl (decide_eq_true c20) rfl) <| .op 0 rfl (mvV rfl) <| .no (gF rfl rfl rfl rfl) <| .no (gF rfl rfl rfl rfl) <| .no (gF rfl rfl rfl rfl) <| .no (gF rfl rfl rfl rfl) <| .no (gF rfl rfl rfl rfl) <| .no (gF rfl rfl rfl rfl) <| .no (gF rfl rfl rfl rfl) <| .no (gF rfl rfl rfl rfl) <| .op 0 rfl (pkTV rfl rfl rfl) <| .nilL _ ⟨.ptr rfl, .ptr rfl, .free rfl rfl, .free rfl rfl, cB rfl (mOrT (decide_eq_true c20)), trivial⟩)
            · by_cases c21 : (rdl a1.Stack x3) ≥ (a0.Sites.length : Int)
              · exact (.op 0 rfl (mvV rfl) <| .op 0 rfl (ltI rfl rfl) <| .op 0 rfl (mvV rfl) <| .op 0 (gT rfl rfl rfl (decide_eq_false c20)) (mvV rfl) <| .op 0 (gT rfl rfl rfl (decide_eq_false c20)) (faP fa29_7 rfl) <| .op 0 (gT rfl rfl rfl (decide_eq_false c20)) (ldP rfl sz25 ag25 rfl) <| .op 0 (gT rfl rfl rfl (decide_eq_false c20)) (lnR (l := a0.Sites) sl25 rfl) <| .op 0 (gT rfl rfl rfl (decide_eq_false c20)) (geI rfl rfl) <| .op 0 rfl (pkFV rfl (decide_eq_false c20) rfl) <| .op 0 rfl (mvV rfl) <| .no (gF rfl rfl rfl (decide_eq_true c21)) <| .no (gF rfl rfl rfl (decide_eq_true c21)) <| .no (gF rfl rfl rfl (decide_eq_true c21)) <| .no (gF rfl rfl rfl (decide_eq_true c21)) <| .no (gF rfl rfl rfl (decide_eq_true c21)) <| .no (gF rfl rfl rfl (decide_eq_true c21)) <| .no (gF rfl rfl rfl (decide_eq_true c21)) <| .no (gF rfl rfl rfl (decide_eq_true c21)) <| .op 0 rfl (pkTV rfl (decide_eq_true c21) rfl) <| .nilL _ ⟨.ptr rfl, .ptr rfl, .free rfl rfl, .free rfl rfl, cB rfl (mOrF (decide_eq_false c20) (mOrT (decide_eq_true c21))), trivial⟩)
              · exact (.op 0 rfl (mvV rfl) <| .op 0 rfl (ltI rfl rfl) <| .op 0 rfl (mvV rfl) <| .op 0 (gT rfl rfl rfl (decide_eq_false c20)) (mvV rfl) <| .op 0 (gT rfl rfl rfl (decide_eq_false c20)) (faP fa29_7 rfl) <| .op 0 (gT rfl rfl rfl (decide_eq_false c20)) (ldP rfl sz25 ag25 rfl) <| .op 0 (gT rfl rfl rfl (decide_eq_false c20)) (lnR (l := a0.Sites) sl25 rfl) <| .op 0 (gT rfl rfl rfl (decide_eq_false c20)) (geI rfl rfl) <| .op 0 rfl (pkFV rfl (decide_eq_false c20) rfl) <| .op 0 rfl (mvV rfl) <| .op 0 (gT rfl rfl rfl (decide_eq_false c21)) (faP fa29_7 rfl) <| .op 0 (gT rfl rfl rfl (decide_eq_false c21)) (ldP rfl sz25 ag25 rfl) <| .op 0 (gT rfl rfl rfl (decide_eq_false c21)) (mvV rfl) <| .op 0 (gT rfl rfl rfl (decide_eq_false c21)) (ixR (l := a0.Sites) (lit := TSite.lit) sl25 rfl rfl (fun _ => rfl) (g33_13 c20 c21).1 (g33_13 c20 c21).2) <| .op 0 (gT rfl rfl rfl (decide_eq_false c21)) (faC fa76_1 rfl) <| .op 0 (gT rfl rfl rfl (decide_eq_false c21)) (ldC rfl sz3 ag3 rfl) <| .op 0 (gT rfl rfl rfl (decide_eq_false c21)) (mvV rfl) <| .op 0 (gT rfl rfl rfl (decide_eq_false c21)) (neI rfl rfl) <| .op 0 rfl (pkFV rfl (decide_eq_false c21) rfl) <| .nilL _ ⟨.ptr rfl, .ptr rfl, .free rfl rfl, .free rfl rfl, cB rfl (mOrF (decide_eq_false c20) (mOrF (decide_eq_false c21) rfl)), trivial⟩)
          by_cases c22 : ((decide ((rdl a1.Stack x3) < 0)) || ((decide ((rdl a1.Stack x3) ≥ (a0.Sites.length : Int))) || ((rdl a0.Sites (rdl a1.Stack x3)).Proc != x2))) = true
          · rw [if_pos c22] at h
            refine .condT rfl c22 ?_
            refine .seq <| .reg0 rfl (.op 0 rfl (asV rfl) <| .nil0) ?_
            have q6 := hr2 _ h
            replace q6 := q6.symm
            subst q6
            refine .keepL [] [(4, .val (.bool false))] [] (by decide) (by decide) ⟨.free rfl rfl, trivial⟩ trivial ?_
            exact .ret rfl
          · rw [if_neg c22] at h
            refine .condF rfl (Bool.eq_false_iff.mpr c22) ?_
            refine .skip ?_
            obtain ⟨g35_5, h⟩ := h
            obtain ⟨g35_8, h⟩ := h
            refine .reg1 (e1 := listEnv [(2, .ptr 0 1 10 0 0), (3, .ptr 1 1 4 0 0), (6, .val (.int .i64 (rdl a0.Of ((rdl a0.Sites (rdl a1.Stack x3)).From)))), (7, .val (.int .i64 x3))]) (H1 := [⟨10, [(TGraph.lit a0)], 0, none⟩, ⟨4, [(TState.lit a1)], 0, none⟩]) rfl ?_ ?_
            · exact .drawM [(10, 6, .val (.int .i64 (rdl a0.Of ((rdl a0.Sites (rdl a1.Stack x3)).From)))), (9, 95, .val (.int .i64 (rdl a0.Of ((rdl a0.Sites (rdl a1.Stack x3)).From)))), (8, 94, .cptr ((cInt .i64) (rdl a0.Of ((rdl a0.Sites (rdl a1.Stack x3)).From))) 0), (7, 93, .val (.int .i64 ((rdl a0.Sites (rdl a1.Stack x3)).From))), (6, 92, .cptr (TSite.lit (rdl a0.Sites (rdl a1.Stack x3))) 2), (5, 91, .cptr (TSite.lit (rdl a0.Sites (rdl a1.Stack x3))) 0), (4, 90, .val (.int .i64 (rdl a1.Stack x3))), (3, 89, .rows (a0.Sites.map TSite.cells)), (2, 88, .ptr 0 1 10 0 7), (1, 87, .rows (a0.Of.map (cInt .i64))), (0, 86, .ptr 0 1 10 0 5)] [] [[], [0], [], [2], [], [3, 2, 4], [5, 3, 2, 4], [6, 5, 3, 2, 4], [1, 0, 7, 6, 5, 3, 2, 4], [8, 1, 0, 7, 6, 5, 3, 2, 4], [9, 8, 1, 0, 7, 6, 5, 3, 2, 4]] (by rfl) (by rfl) (by rfl) (by exact ⟨fun S hS hD hn => .one 0 hS hD hn rfl rfl (faP fa29_5 rfl) rfl rfl rfl, fun S hS hD hn => .one 0 hS hD hn rfl rfl (ldP rfl sz23 ag23 rfl) rfl rfl rfl, fun S hS hD hn => .one 0 hS hD hn rfl rfl (faP fa29_7 rfl) rfl rfl rfl, fun S hS hD hn => .one 0 hS hD hn rfl rfl (ldP rfl sz25 ag25 rfl) rfl rfl rfl, fun S hS hD hn => .one 0 hS hD hn rfl rfl (mvV rfl) rfl rfl rfl, fun S hS hD hn => .one 0 hS hD hn rfl rfl (ixR (l := a0.Sites) (lit := TSite.lit) sl25 rfl rfl (fun _ => rfl) g35_5.1 g35_5.2) rfl rfl rfl, fun S hS hD hn => .one 0 hS hD hn rfl rfl (faC fa76_2 rfl) rfl rfl rfl, fun S hS hD hn => .one 0 hS hD hn rfl rfl (ldC rfl sz3 ag3 rfl) rfl rfl rfl, fun S hS hD hn => .one 0 hS hD hn rfl rfl (ixR (l := a0.Of) (lit := (cInt .i64)) sl23 rfl rfl (fun _ => rfl) g35_8.1 g35_8.2) rfl rfl rfl, fun S hS hD hn => .one 0 hS hD hn rfl rfl (ldC rfl sz3 ag3 rfl) rfl rfl rfl, fun S hS hD hn => .one 0 hS hD hn rfl rfl (asV rfl) rfl rfl rfl, trivial⟩) _ (by exact ⟨.ptr rfl, .ptr rfl, .free rfl rfl, .free rfl rfl, trivial⟩) (by rfl)
            refine .inBlock <| .reg0 rfl (.op 0 rfl (mvV rfl) <| .op 0 rfl (addI rfl rfl) <| .op 0 rfl (asV rfl) <| .nil0) ?_
            refine .keepL [0, 1] [(2, .ptr 0 1 10 0 0), (3, .ptr 1 1 4 0 0), (6, .val (.int .i64 (rdl a0.Of ((rdl a0.Sites (rdl a1.Stack x3)).From)))), (7, .val (.int .i64 (IntKind.i64.wrap (x3 + 1))))] [⟨10, [(TGraph.lit a0)], 0, none⟩, ⟨4, [(TState.lit a1)], 0, none⟩] (by decide) (by decide) ⟨.ptr rfl, .ptr rfl, .free rfl rfl, .free rfl rfl, trivial⟩ ⟨⟨_, rfl, bcBox (all2_free rfl)⟩, ⟨_, rfl, bcBox (all2_free rfl)⟩, trivial⟩ ?_
            exact hn2 _ h
        · rw [if_neg c19] at h
          refine .condF rfl (decide_eq_false c19) ?_
          refine .exit rfl <| .keepL [] [] [] (by decide) (by decide) trivial trivial ?_
          exact hx2 _ h
    · rintro r_ rfl
      exact h
    · rintro x1 z1 h hn1 hx1 hr1
      dsimp only [r22_state.b1] at h
      refine .seq <| .seq <| .reg0 rfl (.op 0 rfl (mvV rfl) <| .op 0 rfl (ltI rfl rfl) <| .nil0) ?_
      by_cases c9 : x1 < 64
      · rw [if_pos c9] at h
        refine .condT rfl (decide_eq_true c9) ?_
        refine .skip <| .seq <| .block <| .seq ?_
        obtain ⟨g14_4, h⟩ := h
        refine .reg0 rfl (.op 0 rfl (faP fa33_2 rfl) <| .op 0 rfl (ldP rfl sz31 ag31 rfl) <| .op 0 rfl (mvV rfl) <| .op 0 rfl (convI un3 un78 rfl) <| .op 0 rfl (shr_ rfl rfl g14_4) <| .op 0 rfl (andI rfl rfl) <| .op 0 rfl (eqI rfl rfl) <| .nil0) ?_
        by_cases c10 : (bitOp .and .u64 (shrI .u64 a1.Marks (IntKind.u64.wrap x1)) 1) = 1
        · rw [if_pos c10] at h
          refine .condT rfl (beq_iff_eq.mpr c10) ?_
          refine .seq <| .reg0 rfl (.op 0 rfl (asV rfl) <| .nil0) ?_
          have q3 := hr1 _ h
          replace q3 := q3.symm
          subst q3
          refine .keepL [] [(4, .val (.bool false))] [] (by decide) (by decide) ⟨.free rfl rfl, trivial⟩ trivial ?_
          exact .ret rfl
        · rw [if_neg c10] at h
          refine .condF rfl (beq_eq_false_iff_ne.mpr c10) ?_
          refine .skip <| .inBlock <| .reg0 rfl (.op 0 rfl (mvV rfl) <| .op 0 rfl (addI rfl rfl) <| .op 0 rfl (asV rfl) <| .nil0) ?_
          refine .keepL [0, 1] [(2, .ptr 0 1 10 0 0), (3, .ptr 1 1 4 0 0), (5, .val (.int .i64 (IntKind.i64.wrap (x1 + 1))))] [⟨10, [(TGraph.lit a0)], 0, none⟩, ⟨4, [(TState.lit a1)], 0, none⟩] (by decide) (by decide) ⟨.ptr rfl, .ptr rfl, .free rfl rfl, trivial⟩ ⟨⟨_, rfl, bcBox (all2_free rfl)⟩, ⟨_, rfl, bcBox (all2_free rfl)⟩, trivial⟩ ?_
          exact hn1 _ h
      · rw [if_neg c9] at h
        refine .condF rfl (decide_eq_false c9) ?_
        refine .exit rfl <| .keepL [0, 1] [(2, .ptr 0 1 10 0 0), (3, .ptr 1 1 4 0 0)] [⟨10, [(TGraph.lit a0)], 0, none⟩, ⟨4, [(TState.lit a1)], 0, none⟩] (by decide) (by decide) ⟨.ptr rfl, .ptr rfl, trivial⟩ ⟨⟨_, rfl, bcBox (all2_free rfl)⟩, ⟨_, rfl, bcBox (all2_free rfl)⟩, trivial⟩ ?_
        exact hx1 _ h
def r22_Check.f (a0 : TGraph) (a1 : TState) (r : Int) : Prop :=
  ∃ t2_1 : Int, (r21_Check.f a0 t2_1) ∧ if t2_1 = 0 then (∃ t4_2 : Bool, (r22_state.f a0 a1 t4_2) ∧ if t4_2 = true then (r = 0) else (r = 220)) else (r = t2_1)
theorem r22_Check.D {a0 : TGraph} {a1 : TState} {r : Int} (h : r22_Check.f a0 a1 r) : D Tryd.prog X (.callH 16 [.agg (TGraph.lit a0), .agg (TState.lit a1)] [] (.val (.int .i64 r)) []) := by
  unfold r22_Check.f at h
  refine .enter 15 0 fn16 rfl rfl rfl ?_
  refine .seq <| .room 0 <| .room 0 <| .reg0 rfl (.op 0 rfl (bxP (s := 10) (cs := (TGraph.lit a0)) rfl ⟨rfl, by decide, rfl⟩ rfl) <| .op 1 rfl (bxP (s := 4) (cs := (TState.lit a1)) rfl ⟨rfl, by decide, rfl⟩ rfl) <| .op 0 rfl (asV rfl) <| .nil0) ?_
  refine .seq ?_
  obtain ⟨t2_1, g2_1, h⟩ := h
  refine .reg0 rfl (.op 0 rfl (ldG rfl sz29 ag29 rfl) <| .callI rfl (callee_of rfl go25 rfl) (.pure rfl rfl (r21_Check.D g2_1)) <| .op 0 rfl (asV rfl) <| .nil0) ?_
  refine .seq <| .seq <| .reg0 rfl (.op 0 rfl (mvV rfl) <| .op 0 rfl (neI rfl rfl) <| .nil0) ?_
  by_cases c1 : t2_1 = 0
  · rw [if_pos c1] at h
    refine .condF rfl (bne_eq_false_iff_eq.mpr c1) ?_
    refine .skip <| .seq <| .seq ?_
    obtain ⟨t4_2, g4_2, h⟩ := h
    refine .reg0 rfl (.op 0 rfl (ldG rfl sz29 ag29 rfl) <| .op 0 rfl (ldG rfl sz33 ag33 rfl) <| .callI rfl (callee_of rfl go26 rfl) (.pure rfl rfl (r22_state.D g4_2)) <| .op 0 rfl (notB rfl) <| .nil0) ?_
    by_cases c2 : t4_2 = true
    · rw [if_pos c2] at h
      refine .condF rfl (bnotF c2) ?_
      refine .skip <| .seq <| .reg0 rfl (.op 0 rfl (asV rfl) <| .nil0) ?_
      replace h := h.symm
      subst h
      refine .keepL [] [(4, .val (.int .i64 0))] [] (by decide) (by decide) ⟨.free rfl rfl, trivial⟩ trivial ?_
      exact .ret rfl
    · rw [if_neg c2] at h
      refine .condT rfl (bnotT (Bool.eq_false_iff.mpr c2)) ?_
      refine .seq <| .reg0 rfl (.op 0 rfl (asV rfl) <| .nil0) ?_
      replace h := h.symm
      subst h
      refine .keepL [] [(4, .val (.int .i64 220))] [] (by decide) (by decide) ⟨.free rfl rfl, trivial⟩ trivial ?_
      exact .ret rfl
  · rw [if_neg c1] at h
    refine .condT rfl (bne_iff_ne.mpr c1) ?_
    refine .seq <| .reg0 rfl (.op 0 rfl (mvV rfl) <| .op 0 rfl (asV rfl) <| .nil0) ?_
    replace h := h.symm
    subst h
    refine .keepL [] [(4, .val (.int .i64 t2_1))] [] (by decide) (by decide) ⟨.free rfl rfl, trivial⟩ trivial ?_
    exact .ret rfl
def r22_over.f (a0 : TGraph) (a1 : TState) (r : Bool) : Prop :=
  (((a1.Stack.length : Int) > 0) → (InR a1.Node a0.Of.length)) ∧ (((a1.Stack.length : Int) > 0) → (InR (rdl a0.Of a1.Node) a0.Exit.length)) ∧ r = ((decide ((a1.Stack.length : Int) > 0)) && (a1.Node == (rdl a0.Exit (rdl a0.Of a1.Node))))
theorem r22_over.D {a0 : TGraph} {a1 : TState} {r : Bool} (h : r22_over.f a0 a1 r) : D Tryd.prog X (.callH 32 [.agg (TGraph.lit a0), .agg (TState.lit a1)] [] (.val (.bool r)) []) := by
  unfold r22_over.f at h
  refine .enter 24 0 fn32 rfl rfl rfl ?_
  refine .seq <| .room 0 <| .room 0 <| .reg0 rfl (.op 0 rfl (bxP (s := 10) (cs := (TGraph.lit a0)) rfl ⟨rfl, by decide, rfl⟩ rfl) <| .op 1 rfl (bxP (s := 4) (cs := (TState.lit a1)) rfl ⟨rfl, by decide, rfl⟩ rfl) <| .op 0 rfl (asV rfl) <| .nil0) ?_
  refine .seq ?_
  obtain ⟨g2_13, h⟩ := h
  obtain ⟨g2_15, h⟩ := h
  refine .reg1 (e1 := listEnv [(4, .val (.bool ((decide ((a1.Stack.length : Int) > 0)) && (a1.Node == (rdl a0.Exit (rdl a0.Of a1.Node))))))]) (H1 := [⟨10, [(TGraph.lit a0)], 0, none⟩, ⟨4, [(TState.lit a1)], 0, none⟩]) rfl ?_ ?_
  · by_cases c1 : (a1.Stack.length : Int) > 0
    · exact .drawM [(19, 4, .val (.bool (a1.Node == (rdl a0.Exit (rdl a0.Of a1.Node))))), (18, 23, .val (.bool (a1.Node == (rdl a0.Exit (rdl a0.Of a1.Node))))), (17, 22, .val (.bool (a1.Node == (rdl a0.Exit (rdl a0.Of a1.Node))))), (16, 21, .val (.int .i64 (rdl a0.Exit (rdl a0.Of a1.Node)))), (15, 20, .cptr ((cInt .i64) (rdl a0.Exit (rdl a0.Of a1.Node))) 0), (14, 19, .val (.int .i64 (rdl a0.Of a1.Node))), (13, 18, .cptr ((cInt .i64) (rdl a0.Of a1.Node)) 0), (12, 17, .val (.int .i64 a1.Node)), (11, 16, .ptr 1 1 4 0 0), (10, 15, .rows (a0.Of.map (cInt .i64))), (9, 14, .ptr 0 1 10 0 5), (8, 13, .rows (a0.Exit.map (cInt .i64))), (7, 12, .ptr 0 1 10 0 3), (6, 11, .val (.int .i64 a1.Node)), (5, 10, .ptr 1 1 4 0 0), (4, 9, .val (.bool (decide ((a1.Stack.length : Int) > 0)))), (3, 8, .val (.bool (decide ((a1.Stack.length : Int) > 0)))), (2, 7, .val (.int .i64 (a1.Stack.length : Int))), (1, 6, .rows (a1.Stack.map (cInt .i64))), (0, 5, .ptr 1 1 4 0 3)] [] [[], [0], [1, 0], [2, 1, 0], [3, 2, 1, 0], [4, 3, 2, 1, 0], [5, 4, 3, 2, 1, 0], [4, 3, 2, 1, 0], [7, 4, 3, 2, 1, 0], [4, 3, 2, 1, 0], [9, 4, 3, 2, 1, 0], [4, 3, 2, 1, 0], [11, 4, 3, 2, 1, 0], [10, 9, 4, 3, 2, 1, 0, 12, 11], [13, 10, 9, 4, 3, 2, 1, 0, 12, 11], [8, 7, 4, 3, 2, 1, 0, 14, 13, 10, 9, 12, 11], [15, 8, 7, 4, 3, 2, 1, 0, 14, 13, 10, 9, 12, 11], [6, 5, 4, 3, 2, 1, 0, 16, 15, 8, 7, 14, 13, 10, 9, 12, 11], [4, 3, 2, 1, 0, 17, 6, 5, 16, 15, 8, 7, 14, 13, 10, 9, 12, 11], [18, 4, 3, 2, 1, 0, 17, 6, 5, 16, 15, 8, 7, 14, 13, 10, 9, 12, 11]] (by rfl) (by rfl) (by rfl) (by exact ⟨fun S hS hD hn => .one 0 hS hD hn rfl rfl (faP fa33_3 rfl) rfl rfl rfl, fun S hS hD hn => .one 0 hS hD hn rfl rfl (ldP rfl sz23 ag23 rfl) rfl rfl rfl, fun S hS hD hn => .one 0 hS hD hn rfl rfl (lnR (l := a1.Stack) sl23 rfl) rfl rfl rfl, fun S hS hD hn => .one 0 hS hD hn rfl rfl (gtI rfl rfl) rfl rfl rfl, fun S hS hD hn => .one 0 hS hD hn rfl rfl (mvV rfl) rfl rfl rfl, fun S hS hD hn => .one 0 hS hD hn (gT rfl rfl rfl (decide_eq_true c1)) rfl (faP fa33_0 rfl) rfl rfl rfl, fun S hS hD hn => .one 0 hS hD hn (gT rfl rfl rfl (decide_eq_true c1)) rfl (ldP rfl sz3 ag3 rfl) rfl rfl rfl, fun S hS hD hn => .one 0 hS hD hn (gT rfl rfl rfl (decide_eq_true c1)) rfl (faP fa29_3 rfl) rfl rfl rfl, fun S hS hD hn => .one 0 hS hD hn (gT rfl rfl rfl (decide_eq_true c1)) rfl (ldP rfl sz23 ag23 rfl) rfl rfl rfl, fun S hS hD hn => .one 0 hS hD hn (gT rfl rfl rfl (decide_eq_true c1)) rfl (faP fa29_5 rfl) rfl rfl rfl, fun S hS hD hn => .one 0 hS hD hn (gT rfl rfl rfl (decide_eq_true c1)) rfl (ldP rfl sz23 ag23 rfl) rfl rfl rfl, fun S hS hD hn => .one 0 hS hD hn (gT rfl rfl rfl (decide_eq_true c1)) rfl (faP fa33_0 rfl) rfl rfl rfl, fun S hS hD hn => .one 0 hS hD hn (gT rfl rfl rfl (decide_eq_true c1)) rfl (ldP rfl sz3 ag3 rfl) rfl rfl rfl, fun S hS hD hn => .one 0 hS hD hn (gT rfl rfl rfl (decide_eq_true c1)) rfl (ixR (l := a0.Of) (lit := (cInt .i64)) sl23 rfl rfl (fun _ => rfl) (g2_13 c1).1 (g2_13 c1).2) rfl rfl rfl, fun S hS hD hn => .one 0 hS hD hn (gT rfl rfl rfl (decide_eq_true c1)) rfl (ldC rfl sz3 ag3 rfl) rfl rfl rfl, fun S hS hD hn => .one 0 hS hD hn (gT rfl rfl rfl (decide_eq_true c1)) rfl (ixR (l := a0.Exit) (lit := (cInt .i64)) sl23 rfl rfl (fun _ => rfl) (g2_15 c1).1 (g2_15 c1).2) rfl rfl rfl, fun S hS hD hn => .one 0 hS hD hn (gT rfl rfl rfl (decide_eq_true c1)) rfl (ldC rfl sz3 ag3 rfl) rfl rfl rfl, fun S hS hD hn => .one 0 hS hD hn (gT rfl rfl rfl (decide_eq_true c1)) rfl (eqI rfl rfl) rfl rfl rfl, fun S hS hD hn => .one 0 hS hD hn rfl rfl (pkTV rfl (decide_eq_true c1) rfl) rfl rfl rfl, fun S hS hD hn => .one 0 hS hD hn rfl rfl (asV rfl) rfl rfl rfl, trivial⟩) _ (by exact ⟨cB rfl (mAndT (decide_eq_true c1) rfl), trivial⟩) (by rfl)
    · exact .drawM [(19, 4, .val (.bool false)), (18, 23, .val (.bool false)), (17, 22, .val undef), (16, 21, .val undef), (15, 20, .val undef), (14, 19, .val undef), (13, 18, .val undef), (12, 17, .val undef), (11, 16, .val undef), (10, 15, .val undef), (9, 14, .val undef), (8, 13, .val undef), (7, 12, .val undef), (6, 11, .val undef), (5, 10, .val undef), (4, 9, .val (.bool (decide ((a1.Stack.length : Int) > 0)))), (3, 8, .val (.bool (decide ((a1.Stack.length : Int) > 0)))), (2, 7, .val (.int .i64 (a1.Stack.length : Int))), (1, 6, .rows (a1.Stack.map (cInt .i64))), (0, 5, .ptr 1 1 4 0 3)] [] [[], [0], [1, 0], [2, 1, 0], [3, 2, 1, 0], [4, 3, 2, 1, 0], [5, 4, 3, 2, 1, 0], [4, 3, 2, 1, 0], [7, 4, 3, 2, 1, 0], [4, 3, 2, 1, 0], [9, 4, 3, 2, 1, 0], [4, 3, 2, 1, 0], [11, 4, 3, 2, 1, 0], [10, 9, 4, 3, 2, 1, 0, 12, 11], [13, 10, 9, 4, 3, 2, 1, 0, 12, 11], [8, 7, 4, 3, 2, 1, 0, 14, 13, 10, 9, 12, 11], [15, 8, 7, 4, 3, 2, 1, 0, 14, 13, 10, 9, 12, 11], [6, 5, 4, 3, 2, 1, 0, 16, 15, 8, 7, 14, 13, 10, 9, 12, 11], [4, 3, 2, 1, 0, 17, 6, 5, 16, 15, 8, 7, 14, 13, 10, 9, 12, 11], [18, 4, 3, 2, 1, 0, 17, 6, 5, 16, 15, 8, 7, 14, 13, 10, 9, 12, 11]] (by rfl) (by rfl) (by rfl) (by exact ⟨fun S hS hD hn => .one 0 hS hD hn rfl rfl (faP fa33_3 rfl) rfl rfl rfl, fun S hS hD hn => .one 0 hS hD hn rfl rfl (ldP rfl sz23 ag23 rfl) rfl rfl rfl, fun S hS hD hn => .one 0 hS hD hn rfl rfl (lnR (l := a1.Stack) sl23 rfl) rfl rfl rfl, fun S hS hD hn => .one 0 hS hD hn rfl rfl (gtI rfl rfl) rfl rfl rfl, fun S hS hD hn => .one 0 hS hD hn rfl rfl (mvV rfl) rfl rfl rfl, fun S hS hD hn => .oneNo hS hD (gF rfl rfl rfl (decide_eq_false c1)) rfl hn rfl rfl rfl, fun S hS hD hn => .oneNo hS hD (gF rfl rfl rfl (decide_eq_false c1)) rfl hn rfl rfl rfl, fun S hS hD hn => .oneNo hS hD (gF rfl rfl rfl (decide_eq_false c1)) rfl hn rfl rfl rfl, fun S hS hD hn => .oneNo hS hD (gF rfl rfl rfl (decide_eq_false c1)) rfl hn rfl rfl rfl, fun S hS hD hn => .oneNo hS hD (gF rfl rfl rfl (decide_eq_false c1)) rfl hn rfl rfl rfl, fun S hS hD hn => .oneNo hS hD (gF rfl rfl rfl (decide_eq_false c1)) rfl hn rfl rfl rfl, fun S hS hD hn => .oneNo hS hD (gF rfl rfl rfl (decide_eq_false c1)) rfl hn rfl rfl rfl, fun S hS hD hn => .oneNo hS hD (gF rfl rfl rfl (decide_eq_false c1)) rfl hn rfl rfl rfl, fun S hS hD hn => .oneNo hS hD (gF rfl rfl rfl (decide_eq_false c1)) rfl hn rfl rfl rfl, fun S hS hD hn => .oneNo hS hD (gF rfl rfl rfl (decide_eq_false c1)) rfl hn rfl rfl rfl, fun S hS hD hn => .oneNo hS hD (gF rfl rfl rfl (decide_eq_false c1)) rfl hn rfl rfl rfl, fun S hS hD hn => .oneNo hS hD (gF rfl rfl rfl (decide_eq_false c1)) rfl hn rfl rfl rfl, fun S hS hD hn => .oneNo hS hD (gF rfl rfl rfl (decide_eq_false c1)) rfl hn rfl rfl rfl, fun S hS hD hn => .one 0 hS hD hn rfl rfl (pkFV rfl (decide_eq_false c1) rfl) rfl rfl rfl, fun S hS hD hn => .one 0 hS hD hn rfl rfl (asV rfl) rfl rfl rfl, trivial⟩) _ (by exact ⟨cB rfl (mAndF (decide_eq_false c1)), trivial⟩) (by rfl)
  replace h := h.symm
  subst h
  refine .keepL [] [(4, .val (.bool ((decide ((a1.Stack.length : Int) > 0)) && (a1.Node == (rdl a0.Exit (rdl a0.Of a1.Node))))))] [] (by decide) (by decide) ⟨.free rfl rfl, trivial⟩ trivial ?_
  exact .ret rfl
def r22_mark.f (a0 : Int) (a1 : Int) (a2 : Bool) (r : Int) : Prop :=
  if a2 = true then ((((0 : Int) ≤ (IntKind.u64.wrap a1))) ∧ r = (bitOp .or .u64 a0 (shlI .u64 1 (IntKind.u64.wrap a1)))) else ((((0 : Int) ≤ (IntKind.u64.wrap a1))) ∧ r = (bitOp .andNot .u64 a0 (shlI .u64 1 (IntKind.u64.wrap a1))))
theorem r22_mark.D {a0 : Int} {a1 : Int} {a2 : Bool} {r : Int} (h : r22_mark.f a0 a1 a2 r) : D Tryd.prog X (.callH 33 [.val (.int .u64 a0), .val (.int .i64 a1), .val (.bool a2)] [] (.val (.int .u64 r)) []) := by
  unfold r22_mark.f at h
  refine .enter 18 0 fn33 rfl rfl rfl ?_
  refine .seq <| .reg0 rfl (.op 0 rfl (asV rfl) <| .nil0) ?_
  refine .seq <| .seq <| .reg0 rfl (.op 0 rfl (mvV rfl) <| .nil0) ?_
  by_cases c1 : a2 = true
  · rw [if_pos c1] at h
    refine .condT rfl c1 ?_
    refine .seq ?_
    obtain ⟨g3_3, h⟩ := h
    refine .reg0 rfl (.op 0 rfl (mvV rfl) <| .op 0 rfl (mvV rfl) <| .op 0 rfl (convI un3 un78 rfl) <| .op 0 rfl (shl_ rfl rfl g3_3) <| .op 0 rfl (orI rfl rfl) <| .op 0 rfl (asV rfl) <| .nil0) ?_
    replace h := h.symm
    subst h
    refine .keepL [] [(6, .val (.int .u64 (bitOp .or .u64 a0 (shlI .u64 1 (IntKind.u64.wrap a1)))))] [] (by decide) (by decide) ⟨.free rfl rfl, trivial⟩ trivial ?_
    exact .ret rfl
  · rw [if_neg c1] at h
    refine .condF rfl (Bool.eq_false_iff.mpr c1) ?_
    refine .skip <| .seq ?_
    obtain ⟨g4_3, h⟩ := h
    refine .reg0 rfl (.op 0 rfl (mvV rfl) <| .op 0 rfl (mvV rfl) <| .op 0 rfl (convI un3 un78 rfl) <| .op 0 rfl (shl_ rfl rfl g4_3) <| .op 0 rfl (andNotI rfl rfl) <| .op 0 rfl (asV rfl) <| .nil0) ?_
    replace h := h.symm
    subst h
    refine .keepL [] [(6, .val (.int .u64 (bitOp .andNot .u64 a0 (shlI .u64 1 (IntKind.u64.wrap a1)))))] [] (by decide) (by decide) ⟨.free rfl rfl, trivial⟩ trivial ?_
    exact .ret rfl
def r22_do.f (a0 : TGraph) (a1 : TState) (a2 : TMove) (r : TState × Int) : Prop :=
  ((Fits (0 + a1.Env.length) 8)) ∧ ((Fits (0 + a1.Stack.length) 8)) ∧ ∃ t3_11 : Bool, ((a2.Step = (-1)) → (a2.Draw = 0) → r22_over.f a0 a1 t3_11) ∧ if ((a2.Step == (-1)) && ((a2.Draw == 0) && t3_11)) = true then (((InR 0 a1.Stack.length)) ∧ ((InR (rdl a1.Stack 0) a0.Sites.length)) ∧ ((Cut 1 (a1.Stack.length : Int) a1.Stack.length)) ∧ r = ((TState.mk ((rdl a0.Sites (rdl a1.Stack 0)).Back) a1.Env a1.Marks (cutl a1.Stack 1 (a1.Stack.length : Int))), 0)) else (if ((decide (a2.Step < 0)) || (decide (a2.Step ≥ (a0.Steps.length : Int)))) = true then (r = ((TState.mk 0 [] 0 []), 221)) else (((InR a2.Step a0.Steps.length)) ∧ if ((!((rdl a0.Steps a2.Step).From == a1.Node)) || ((!(a2.Draw == 0)) && ((rdl a0.Steps a2.Step).Kind != 4))) = true then (r = ((TState.mk 0 [] 0 []), 221)) else (if (rdl a0.Steps a2.Step).Kind = 2 then (((InR ((rdl a0.Steps a2.Step).X) a1.Env.length)) ∧ ∃ t16_4 : Int, (r22_mark.f a1.Marks ((rdl a0.Steps a2.Step).X) false t16_4) ∧ r = ((TState.mk ((rdl a0.Steps a2.Step).To) (setl a1.Env ((rdl a0.Steps a2.Step).X) ((rdl a0.Steps a2.Step).K)) t16_4 a1.Stack), 0)) else (if (rdl a0.Steps a2.Step).Kind = 3 then (((InR ((rdl a0.Steps a2.Step).Y) a1.Env.length)) ∧ ((InR ((rdl a0.Steps a2.Step).X) a1.Env.length)) ∧ (((0 : Int) ≤ (IntKind.u64.wrap ((rdl a0.Steps a2.Step).Y)))) ∧ ∃ t20_12 : Int, (r22_mark.f a1.Marks ((rdl a0.Steps a2.Step).X) ((bitOp .and .u64 (shrI .u64 a1.Marks (IntKind.u64.wrap ((rdl a0.Steps a2.Step).Y))) 1) == 1) t20_12) ∧ r = ((TState.mk ((rdl a0.Steps a2.Step).To) (setl a1.Env ((rdl a0.Steps a2.Step).X) (rdl a1.Env ((rdl a0.Steps a2.Step).Y))) t20_12 a1.Stack), 0)) else (if (rdl a0.Steps a2.Step).Kind = 4 then (((InR ((rdl a0.Steps a2.Step).X) a1.Env.length)) ∧ ∃ t24_4 : Int, (r22_mark.f a1.Marks ((rdl a0.Steps a2.Step).X) false t24_4) ∧ r = ((TState.mk ((rdl a0.Steps a2.Step).To) (setl a1.Env ((rdl a0.Steps a2.Step).X) a2.Draw) t24_4 a1.Stack), 0)) else (if (rdl a0.Steps a2.Step).Kind = 5 then (∃ t27_4 : Int, (r22_mark.f a1.Marks ((rdl a0.Steps a2.Step).X) true t27_4) ∧ r = ((TState.mk ((rdl a0.Steps a2.Step).To) a1.Env t27_4 a1.Stack), 0)) else (if (rdl a0.Steps a2.Step).Kind = 6 then (∃ t30_4 : Int, (r22_mark.f a1.Marks ((rdl a0.Steps a2.Step).X) false t30_4) ∧ r = ((TState.mk ((rdl a0.Steps a2.Step).To) a1.Env t30_4 a1.Stack), 0)) else (if (rdl a0.Steps a2.Step).Kind = 8 then (if (a1.Stack.length : Int) ≥ 4096 then (r = ((TState.mk 0 [] 0 []), 2)) else (((InR ((rdl a0.Steps a2.Step).Site) a0.Sites.length)) ∧ ((InR ((rdl a0.Sites ((rdl a0.Steps a2.Step).Site)).Proc) a0.Entry.length)) ∧ ((Fits ([(rdl a0.Steps a2.Step).Site].length + a1.Stack.length) 8)) ∧ r = ((TState.mk (rdl a0.Entry ((rdl a0.Sites ((rdl a0.Steps a2.Step).Site)).Proc)) a1.Env a1.Marks ([(rdl a0.Steps a2.Step).Site] ++ a1.Stack)), 0))) else (r = ((TState.mk ((rdl a0.Steps a2.Step).To) a1.Env a1.Marks a1.Stack), 0))))))))))
theorem r22_do.D {a0 : TGraph} {a1 : TState} {a2 : TMove} {r : TState × Int} (h : r22_do.f a0 a1 a2 r) : D Tryd.prog X (.callH 24 [.agg (TGraph.lit a0), .agg (TState.lit a1), .agg (TMove.lit a2)] [] (.tuple [.agg (TState.lit r.1), .val (.int .i64 r.2)]) []) := by
  unfold r22_do.f at h
  refine .enter 190 0 fn24 rfl rfl rfl ?_
  refine .seq <| .room 0 <| .room 0 <| .room 0 <| .room 0 <| .reg0 rfl (.op 0 rfl (bxP (s := 10) (cs := (TGraph.lit a0)) rfl ⟨rfl, by decide, rfl⟩ rfl) <| .op 1 rfl (bxP (s := 4) (cs := (TState.lit a1)) rfl ⟨rfl, by decide, rfl⟩ rfl) <| .op 2 rfl (bxP (s := 2) (cs := (TMove.lit a2)) rfl ⟨rfl, by decide, rfl⟩ rfl) <| .op 3 rfl (alP (s := 4) ze33 ⟨rfl, by decide, rfl⟩ rfl) <| .op 0 rfl (asV rfl) <| .nil0) ?_
  refine .seq ?_
  obtain ⟨g2_7, h⟩ := h
  obtain ⟨g2_11, h⟩ := h
  refine .room 0 <| .room 0 <| .room 0 <| .room 0 <| .room 0 ?_
  refine .reg1 (e1 := listEnv [(3, .ptr 0 1 10 0 0), (4, .ptr 1 1 4 0 0), (5, .ptr 2 1 2 0 0), (6, .ptr 3 1 4 0 0), (8, .ptr 8 1 4 0 0)]) (H1 := [⟨10, [(TGraph.lit a0)], 0, none⟩, ⟨4, [(TState.lit a1)], 0, none⟩, ⟨2, [(TMove.lit a2)], 0, none⟩, ⟨4, [[.val (.int .i64 0), .val (.slice none 0 0), .val (.int .u64 0), .val (.slice none 0 0)]], 0, none⟩, ⟨1, a1.Env.map (cInt .i64), 0, none⟩, Blk.hole, ⟨1, a1.Stack.map (cInt .i64), 0, none⟩, Blk.hole, ⟨4, [[.val (.int .i64 a1.Node), .own 4 a1.Env.length, .val (.int .u64 a1.Marks), .own 6 a1.Stack.length]], 0, none⟩]) rfl ?_ ?_
  · exact .drawM [(13, 8, .ptr 8 1 4 0 0), (12, 22, .agg [.val (.int .i64 a1.Node), .own 4 a1.Env.length, .val (.int .u64 a1.Marks), .own 6 a1.Stack.length]), (11, 21, .own 6 a1.Stack.length), (10, 20, .rows (a1.Stack.map (cInt .i64))), (9, 19, .ptr 1 1 4 0 3), (8, 18, .own 6 0), (7, 17, .own 4 a1.Env.length), (6, 16, .rows (a1.Env.map (cInt .i64))), (5, 15, .ptr 1 1 4 0 1), (4, 14, .own 4 0), (3, 13, .val (.int .u64 a1.Marks)), (2, 12, .ptr 1 1 4 0 2), (1, 11, .val (.int .i64 a1.Node)), (0, 10, .ptr 1 1 4 0 0)] [(14, 8, ⟨4, [[.val (.int .i64 a1.Node), .own 4 a1.Env.length, .val (.int .u64 a1.Marks), .own 6 a1.Stack.length]], 0, none⟩), (13, 8, ⟨4, [[.val (.int .i64 0), .val (.slice none 0 0), .val (.int .u64 0), .val (.slice none 0 0)]], 0, none⟩), (11, 6, ⟨1, a1.Stack.map (cInt .i64), 0, none⟩), (8, 6, ⟨1, [].map (cInt .i64), 0, none⟩), (7, 4, ⟨1, a1.Env.map (cInt .i64), 0, none⟩), (4, 4, ⟨1, [].map (cInt .i64), 0, none⟩)] [[], [0], [], [2], [], [], [5], [4, 6, 5], [], [], [9], [8, 10, 9, 7, 4, 6, 5], [1, 0, 3, 2, 7, 4, 6, 5, 11, 8, 10, 9], [], [13, 12, 1, 0, 3, 2, 7, 4, 6, 5, 11, 8, 10, 9]] (by rfl) (by rfl) (by rfl) (by exact ⟨fun S hS hD hn => .one 0 hS hD hn rfl rfl (faP fa33_0 rfl) rfl rfl rfl, fun S hS hD hn => .one 0 hS hD hn rfl rfl (ldP rfl sz3 ag3 rfl) rfl rfl rfl, fun S hS hD hn => .one 0 hS hD hn rfl rfl (faP fa33_2 rfl) rfl rfl rfl, fun S hS hD hn => .one 0 hS hD hn rfl rfl (ldP rfl sz31 ag31 rfl) rfl rfl rfl, fun S hS hD hn => .one 4 hS hD hn rfl rfl (bldL (s := 1) (cs := []) un30 sz2 ze2 ⟨by decide, rfl, by decide⟩ rfl rfl rfl rfl) rfl rfl rfl, fun S hS hD hn => .one 0 hS hD hn rfl rfl (faP fa33_1 rfl) rfl rfl rfl, fun S hS hD hn => .one 0 hS hD hn rfl rfl (ldP rfl sz30 ag30 rfl) rfl rfl rfl, fun S hS hD hn => .one 0 hS hD hn rfl rfl (apL (l := []) a1.Env sl30 rfl rfl rfl (Nat.zero_le _) rfl g2_7) rfl rfl rfl, fun S hS hD hn => .one 6 hS hD hn rfl rfl (bldL (s := 1) (cs := []) un23 sz3 ze3 ⟨by decide, rfl, by decide⟩ rfl rfl rfl rfl) rfl rfl rfl, fun S hS hD hn => .one 0 hS hD hn rfl rfl (faP fa33_3 rfl) rfl rfl rfl, fun S hS hD hn => .one 0 hS hD hn rfl rfl (ldP rfl sz23 ag23 rfl) rfl rfl rfl, fun S hS hD hn => .one 0 hS hD hn rfl rfl (apL (l := []) a1.Stack sl23 rfl rfl rfl (Nat.zero_le _) rfl g2_11) rfl rfl rfl, fun S hS hD hn => .one 0 hS hD hn rfl rfl (bldS (cs := [.val (.int .i64 a1.Node), .own 4 a1.Env.length, .val (.int .u64 a1.Marks), .own 6 a1.Stack.length]) ze33 pl33 rfl rfl) rfl rfl rfl, fun S hS hD hn => .one 8 hS hD hn rfl rfl (alP (s := 4) ze33 ⟨rfl, by decide, rfl⟩ rfl) rfl rfl rfl, fun S hS hD hn => .one0 0 rfl rfl (stB (cs0 := [.val (.int .i64 0), .val (.slice none 0 0), .val (.int .u64 0), .val (.slice none 0 0)]) (cs := [.val (.int .i64 a1.Node), .own 4 a1.Env.length, .val (.int .u64 a1.Marks), .own 6 a1.Stack.length]) (cs1 := [.val (.int .i64 a1.Node), .own 4 a1.Env.length, .val (.int .u64 a1.Marks), .own 6 a1.Stack.length]) rfl rfl sz33 rfl ⟨Nat.le_of_ble_eq_true rfl, rfl⟩ rfl) (drawE_other _ _ _ _ rfl) rfl, trivial⟩) _ (by exact ⟨.ptr rfl, .ptr rfl, .ptr rfl, .ptr rfl, .ptr rfl, trivial⟩) (by rfl)
  refine .seq <| .seq ?_
  obtain ⟨t3_11, g3_11, h⟩ := h
  refine .reg0 (e1 := listEnv [(3, .ptr 0 1 10 0 0), (4, .ptr 1 1 4 0 0), (5, .ptr 2 1 2 0 0), (6, .ptr 3 1 4 0 0), (8, .ptr 8 1 4 0 0), (35, .val (.bool ((a2.Step == (-1)) && ((a2.Draw == 0) && t3_11))))]) (H1 := [⟨10, [(TGraph.lit a0)], 0, none⟩, ⟨4, [(TState.lit a1)], 0, none⟩, ⟨2, [(TMove.lit a2)], 0, none⟩, ⟨4, [[.val (.int .i64 0), .val (.slice none 0 0), .val (.int .u64 0), .val (.slice none 0 0)]], 0, none⟩, ⟨1, a1.Env.map (cInt .i64), 0, none⟩, Blk.hole, ⟨1, a1.Stack.map (cInt .i64), 0, none⟩, Blk.hole, ⟨4, [[.val (.int .i64 a1.Node), .own 4 a1.Env.length, .val (.int .u64 a1.Marks), .own 6 a1.Stack.length]], 0, none⟩]) rfl ?_ ?_
  · by_cases c1 : a2.Step = (-1)
    · by_cases c2 : a2.Draw = 0
      · exact (.op 0 rfl (faP fa44_0 rfl) <| .op 0 rfl (ldP rfl sz3 ag3 rfl) <| .op 0 rfl (eqI rfl rfl) <| .op 0 rfl (mvV rfl) <| .op 0 (gT rfl rfl rfl (beq_iff_eq.mpr c1)) (faP fa44_1 rfl) <| .op 0 (gT rfl rfl rfl (beq_iff_eq.mpr c1)) (ldP rfl sz2 ag2 rfl) <| .op 0 (gT rfl rfl rfl (beq_iff_eq.mpr c1)) (eqI rfl rfl) <| .op 0 rfl (pkTV rfl (beq_iff_eq.mpr c1) rfl) <| .op 0 rfl (mvV rfl) <| .op 0 (gT rfl rfl rfl (beq_iff_eq.mpr c2)) (ldG rfl sz29 ag29 rfl) <| .op 0 (gT rfl rfl rfl (beq_iff_eq.mpr c2)) (ldG rfl sz33 ag33 rfl) <| .callI (gT rfl rfl rfl (beq_iff_eq.mpr c2)) (callee_of rfl go32 rfl) (.pure rfl rfl (r22_over.D (g3_11 c1 c2))) <| .op 0 rfl (pkTV rfl (beq_iff_eq.mpr c2) rfl) <| .nilL _ ⟨.ptr rfl, .ptr rfl, .ptr rfl, .ptr rfl, .ptr rfl, cB rfl (mAndT (beq_iff_eq.mpr c1) (mAndT (beq_iff_eq.mpr c2) rfl)), trivial⟩)
      · exact (.op 0 rfl (faP fa44_0 rfl) <| .op 0 rfl (ldP rfl sz3 ag3 rfl) <| .op 0 rfl (eqI rfl rfl) <| .op 0 rfl (mvV rfl) <| .op 0 (gT rfl rfl rfl (beq_iff_eq.mpr c1)) (faP fa44_1 rfl) <| .op 0 (gT rfl rfl rfl (beq_iff_eq.mpr c1)) (ldP rfl sz2 ag2 rfl) <| .op 0 (gT rfl rfl rfl (beq_iff_eq.mpr c1)) (eqI rfl rfl) <| .op 0 rfl (pkTV rfl (beq_iff_eq.mpr c1) rfl) <| .op 0 rfl (mvV rfl) <| .no (gF rfl rfl rfl (beq_eq_false_iff_ne.mpr c2)) <| .no (gF rfl rfl rfl (beq_eq_false_iff_ne.mpr c2)) <| .no (gF rfl rfl rfl (beq_eq_false_iff_ne.mpr c2)) <| .op 0 rfl (pkFV rfl (beq_eq_false_iff_ne.mpr c2) rfl) <| .nilL _ ⟨.ptr rfl, .ptr rfl, .ptr rfl, .ptr rfl, .ptr rfl, cB rfl (mAndT (beq_iff_eq.mpr c1) (mAndF (beq_eq_false_iff_ne.mpr c2))), trivial⟩)
    · exact (.op 0 rfl (faP fa44_0 rfl) <| .op 0 rfl (ldP rfl sz3 ag3 rfl) <| .op 0 rfl (eqI rfl rfl) <| .op 0 rfl (mvV rfl) <| .no (gF rfl rfl rfl (beq_eq_false_iff_ne.mpr c1)) <| .no (gF rfl rfl rfl (beq_eq_false_iff_ne.mpr c1)) <| .no (gF rfl rfl rfl (beq_eq_false_iff_ne.mpr c1)) <| .op 0 rfl (pkFV rfl (beq_eq_false_iff_ne.mpr c1) rfl) <| .op 0 rfl (mvV rfl) <| .no (gF rfl rfl rfl rfl) <| .no (gF rfl rfl rfl rfl) <| .no (gF rfl rfl rfl rfl) <| .op 0 rfl (pkFV rfl rfl rfl) <| .nilL _ ⟨.ptr rfl, .ptr rfl, .ptr rfl, .ptr rfl, .ptr rfl, cB rfl (mAndF (beq_eq_false_iff_ne.mpr c1)), trivial⟩)
  by_cases c3 : ((a2.Step == (-1)) && ((a2.Draw == 0) && t3_11)) = true
  · rw [if_pos c3] at h
    refine .condT rfl c3 ?_
    refine .seq ?_
    obtain ⟨g4_4, h⟩ := h
    obtain ⟨g4_6, h⟩ := h
    refine .reg1 (e1 := listEnv [(6, .ptr 3 1 4 0 0), (8, .ptr 8 1 4 0 0)]) (H1 := [⟨10, [(TGraph.lit a0)], 0, none⟩, ⟨4, [(TState.lit a1)], 0, none⟩, ⟨2, [(TMove.lit a2)], 0, none⟩, ⟨4, [[.val (.int .i64 0), .val (.slice none 0 0), .val (.int .u64 0), .val (.slice none 0 0)]], 0, none⟩, ⟨1, a1.Env.map (cInt .i64), 0, none⟩, Blk.hole, ⟨1, a1.Stack.map (cInt .i64), 0, none⟩, Blk.hole, ⟨4, [[.val (.int .i64 ((rdl a0.Sites (rdl a1.Stack 0)).Back)), .own 4 a1.Env.length, .val (.int .u64 a1.Marks), .own 6 a1.Stack.length]], 0, none⟩]) rfl ?_ ?_
    · exact .drawM [(9, 45, .ptr 8 1 4 0 0), (8, 44, .val (.int .i64 ((rdl a0.Sites (rdl a1.Stack 0)).Back))), (7, 43, .cptr (TSite.lit (rdl a0.Sites (rdl a1.Stack 0))) 3), (6, 42, .cptr (TSite.lit (rdl a0.Sites (rdl a1.Stack 0))) 0), (5, 41, .val (.int .i64 (rdl a1.Stack 0))), (4, 40, .cptr ((cInt .i64) (rdl a1.Stack 0)) 0), (3, 39, .rows (a1.Stack.map (cInt .i64))), (2, 38, .ptr 1 1 4 0 3), (1, 37, .rows (a0.Sites.map TSite.cells)), (0, 36, .ptr 0 1 10 0 7)] [(10, 8, ⟨4, [[.val (.int .i64 ((rdl a0.Sites (rdl a1.Stack 0)).Back)), .own 4 a1.Env.length, .val (.int .u64 a1.Marks), .own 6 a1.Stack.length]], 0, none⟩)] [[], [0], [], [2], [3, 2], [4, 3, 2], [1, 0, 5, 4, 3, 2], [6, 1, 0, 5, 4, 3, 2], [7, 6, 1, 0, 5, 4, 3, 2], [0, 1, 2, 3, 4, 5, 6, 7, 8], [9, 0, 1, 2, 3, 4, 5, 6, 7, 8]] (by rfl) (by rfl) (by rfl) (by exact ⟨fun S hS hD hn => .one 0 hS hD hn rfl rfl (faP fa29_7 rfl) rfl rfl rfl, fun S hS hD hn => .one 0 hS hD hn rfl rfl (ldP rfl sz25 ag25 rfl) rfl rfl rfl, fun S hS hD hn => .one 0 hS hD hn rfl rfl (faP fa33_3 rfl) rfl rfl rfl, fun S hS hD hn => .one 0 hS hD hn rfl rfl (ldP rfl sz23 ag23 rfl) rfl rfl rfl, fun S hS hD hn => .one 0 hS hD hn rfl rfl (ixR (l := a1.Stack) (lit := (cInt .i64)) sl23 rfl rfl (fun _ => rfl) g4_4.1 g4_4.2) rfl rfl rfl, fun S hS hD hn => .one 0 hS hD hn rfl rfl (ldC rfl sz3 ag3 rfl) rfl rfl rfl, fun S hS hD hn => .one 0 hS hD hn rfl rfl (ixR (l := a0.Sites) (lit := TSite.lit) sl25 rfl rfl (fun _ => rfl) g4_6.1 g4_6.2) rfl rfl rfl, fun S hS hD hn => .one 0 hS hD hn rfl rfl (faC fa76_3 rfl) rfl rfl rfl, fun S hS hD hn => .one 0 hS hD hn rfl rfl (ldC rfl sz3 ag3 rfl) rfl rfl rfl, fun S hS hD hn => .one 0 hS hD hn rfl rfl (faP fa33_0 rfl) rfl rfl rfl, fun S hS hD hn => .one0 0 rfl rfl (stB (cs0 := [.val (.int .i64 a1.Node), .own 4 a1.Env.length, .val (.int .u64 a1.Marks), .own 6 a1.Stack.length]) (cs := [.val (.int .i64 ((rdl a0.Sites (rdl a1.Stack 0)).Back))]) (cs1 := [.val (.int .i64 ((rdl a0.Sites (rdl a1.Stack 0)).Back)), .own 4 a1.Env.length, .val (.int .u64 a1.Marks), .own 6 a1.Stack.length]) rfl rfl sz3 rfl ⟨Nat.le_of_ble_eq_true rfl, rfl⟩ rfl) (drawE_other _ _ _ _ rfl) rfl, trivial⟩) _ (by exact ⟨.ptr rfl, .ptr rfl, trivial⟩) (by rfl)
    refine .seq ?_
    obtain ⟨g5_2, h⟩ := h
    refine .reg0 rfl (.op 0 rfl (faP fa33_3 rfl) <| .op 0 rfl (ldP rfl sz23 ag23 rfl) <| .op 0 rfl (slO (l := a1.Stack) (v := Int.toNat 1) sl23 rfl rfl rfl (bound_some rfl g5_2.1) rfl (cut_le' g5_2) (Nat.le_refl _)) <| .op 0 rfl (faP fa33_3 rfl) <| .op 0 rfl (stB (cs0 := [.val (.int .i64 ((rdl a0.Sites (rdl a1.Stack 0)).Back)), .own 4 a1.Env.length, .val (.int .u64 a1.Marks), .own 6 a1.Stack.length]) (cs := [.rows ((cutl a1.Stack 1 (a1.Stack.length : Int)).map (cInt .i64))]) (cs1 := [.val (.int .i64 ((rdl a0.Sites (rdl a1.Stack 0)).Back)), .own 4 a1.Env.length, .val (.int .u64 a1.Marks), .rows ((cutl a1.Stack 1 (a1.Stack.length : Int)).map (cInt .i64))]) rfl rfl sz23 rfl ⟨Nat.le_of_ble_eq_true rfl, rfl⟩ rfl) <| .nil0) ?_
    refine .seq <| .reg0 rfl (.op 0 rfl (ldG rfl sz33 ag33 rfl) <| .op 0 rfl (stB (cs0 := [.val (.int .i64 0), .val (.slice none 0 0), .val (.int .u64 0), .val (.slice none 0 0)]) (cs := [.val (.int .i64 ((rdl a0.Sites (rdl a1.Stack 0)).Back)), .own 4 a1.Env.length, .val (.int .u64 a1.Marks), .rows ((cutl a1.Stack 1 (a1.Stack.length : Int)).map (cInt .i64))]) (cs1 := [.val (.int .i64 ((rdl a0.Sites (rdl a1.Stack 0)).Back)), .own 4 a1.Env.length, .val (.int .u64 a1.Marks), .rows ((cutl a1.Stack 1 (a1.Stack.length : Int)).map (cInt .i64))]) rfl rfl sz33 rfl ⟨Nat.le_of_ble_eq_true rfl, rfl⟩ rfl) <| .op 0 rfl (asV rfl) <| .nil0) ?_
    replace h := h.symm
    subst h
    refine .keepL [] [(6, .cptr [.val (.int .i64 ((rdl a0.Sites (rdl a1.Stack 0)).Back)), .rows (a1.Env.map (cInt .i64)), .val (.int .u64 a1.Marks), .rows ((cutl a1.Stack 1 (a1.Stack.length : Int)).map (cInt .i64))] 0), (7, .val (.int .i64 0))] [] (by decide) (by decide) ⟨cFixP rfl rfl (.cons (.free rfl rfl) <| .cons (cFixO (l := a1.Env) sl30 rfl rfl rfl rfl) <| .cons (.free rfl rfl) <| .cons (.free rfl rfl) <| .nil), .free rfl rfl, trivial⟩ trivial ?_
    exact .ret rfl
  · rw [if_neg c3] at h
    refine .condF rfl (Bool.eq_false_iff.mpr c3) ?_
    refine .skip <| .seq <| .seq ?_
    refine .reg0 (e1 := listEnv [(3, .ptr 0 1 10 0 0), (4, .ptr 1 1 4 0 0), (5, .ptr 2 1 2 0 0), (6, .ptr 3 1 4 0 0), (8, .ptr 8 1 4 0 0), (61, .val (.bool ((decide (a2.Step < 0)) || (decide (a2.Step ≥ (a0.Steps.length : Int))))))]) (H1 := [⟨10, [(TGraph.lit a0)], 0, none⟩, ⟨4, [(TState.lit a1)], 0, none⟩, ⟨2, [(TMove.lit a2)], 0, none⟩, ⟨4, [[.val (.int .i64 0), .val (.slice none 0 0), .val (.int .u64 0), .val (.slice none 0 0)]], 0, none⟩, ⟨1, a1.Env.map (cInt .i64), 0, none⟩, Blk.hole, ⟨1, a1.Stack.map (cInt .i64), 0, none⟩, Blk.hole, ⟨4, [[.val (.int .i64 a1.Node), .own 4 a1.Env.length, .val (.int .u64 a1.Marks), .own 6 a1.Stack.length]], 0, none⟩]) rfl ?_ ?_
    · by_cases c4 : a2.Step < 0
      · exact (.op 0 rfl (faP fa44_0 rfl) <| .op 0 rfl (ldP rfl sz3 ag3 rfl) <| .op 0 rfl (ltI rfl rfl) <| .op 0 rfl (mvV rfl) <| .no (gF rfl rfl rfl (decide_eq_true c4)) <| .no (gF rfl rfl rfl (decide_eq_true c4)) <| .no (gF rfl rfl rfl (decide_eq_true c4)) <| .no (gF rfl rfl rfl (decide_eq_true c4)) <| .no (gF rfl rfl rfl (decide_eq_true c4)) <| .no (gF rfl rfl rfl (decide_eq_true c4)) <| .op 0 rfl (pkTV rfl (decide_eq_true c4) rfl) <| .nilL _ ⟨.ptr rfl, .ptr rfl, .ptr rfl, .ptr rfl, .ptr rfl, cB rfl (mOrT (decide_eq_true c4)), trivial⟩)
      · exact (.op 0 rfl (faP fa44_0 rfl) <| .op 0 rfl (ldP rfl sz3 ag3 rfl) <| .op 0 rfl (ltI rfl rfl) <| .op 0 rfl (mvV rfl) <| .op 0 (gT rfl rfl rfl (decide_eq_false c4)) (faP fa44_0 rfl) <| .op 0 (gT rfl rfl rfl (decide_eq_false c4)) (ldP rfl sz3 ag3 rfl) <| .op 0 (gT rfl rfl rfl (decide_eq_false c4)) (faP fa29_6 rfl) <| .op 0 (gT rfl rfl rfl (decide_eq_false c4)) (ldP rfl sz24 ag24 rfl) <| .op 0 (gT rfl rfl rfl (decide_eq_false c4)) (lnR (l := a0.Steps) sl24 rfl) <| .op 0 (gT rfl rfl rfl (decide_eq_false c4)) (geI rfl rfl) <| .op 0 rfl (pkFV rfl (decide_eq_false c4) rfl) <| .nilL _ ⟨.ptr rfl, .ptr rfl, .ptr rfl, .ptr rfl, .ptr rfl, cB rfl (mOrF (decide_eq_false c4) rfl), trivial⟩)
    by_cases c5 : ((decide (a2.Step < 0)) || (decide (a2.Step ≥ (a0.Steps.length : Int)))) = true
    · rw [if_pos c5] at h
      refine .condT rfl c5 ?_
      refine .seq <| .reg0 rfl (.op 0 rfl (bldS (cs := [.val (.int .i64 0), .val (.slice none 0 0), .val (.int .u64 0), .val (.slice none 0 0)]) ze33 pl33 rfl rfl) <| .op 0 rfl (stB (cs0 := [.val (.int .i64 0), .val (.slice none 0 0), .val (.int .u64 0), .val (.slice none 0 0)]) (cs := [.val (.int .i64 0), .val (.slice none 0 0), .val (.int .u64 0), .val (.slice none 0 0)]) (cs1 := [.val (.int .i64 0), .val (.slice none 0 0), .val (.int .u64 0), .val (.slice none 0 0)]) rfl rfl sz33 rfl ⟨Nat.le_of_ble_eq_true rfl, rfl⟩ rfl) <| .op 0 rfl (asV rfl) <| .nil0) ?_
      replace h := h.symm
      subst h
      refine .keepL [] [(6, .cptr [.val (.int .i64 0), .rows (([] : List Int).map (cInt .i64)), .val (.int .u64 0), .rows (([] : List Int).map (cInt .i64))] 0), (7, .val (.int .i64 221))] [] (by decide) (by decide) ⟨cFixP rfl rfl (.cons (.free rfl rfl) <| .cons (.nil) <| .cons (.free rfl rfl) <| .cons (.nil) <| .nil), .free rfl rfl, trivial⟩ trivial ?_
      exact .ret rfl
    · rw [if_neg c5] at h
      refine .condF rfl (Bool.eq_false_iff.mpr c5) ?_
      refine .skip <| .seq ?_
      obtain ⟨g9_4, h⟩ := h
      refine .room 0 <| .reg0 rfl (.op 0 rfl (faP fa29_6 rfl) <| .op 0 rfl (ldP rfl sz24 ag24 rfl) <| .op 0 rfl (faP fa44_0 rfl) <| .op 0 rfl (ldP rfl sz3 ag3 rfl) <| .op 0 rfl (ixR (l := a0.Steps) (lit := TStep.lit) sl24 rfl rfl (fun _ => rfl) g9_4.1 g9_4.2) <| .op 0 rfl (ldCG rfl sz47 ag47 rfl) <| .op 9 rfl (alP (s := 7) ze47 ⟨rfl, by decide, rfl⟩ rfl) <| .op 0 rfl (stB (cs0 := [.val (.int .i64 0), .val (.int .i64 0), .val (.int .i64 0), .val (.int .i64 0), .val (.int .i64 0), .val (.int .i64 0), .val (.int .i64 0)]) (cs := (TStep.lit (rdl a0.Steps a2.Step))) (cs1 := (TStep.lit (rdl a0.Steps a2.Step))) rfl rfl sz47 rfl ⟨Nat.le_of_ble_eq_true rfl, rfl⟩ rfl) <| .nil0) ?_
      refine .seq <| .seq ?_
      refine .reg0 (e1 := listEnv [(3, .ptr 0 1 10 0 0), (4, .ptr 1 1 4 0 0), (5, .ptr 2 1 2 0 0), (6, .ptr 3 1 4 0 0), (8, .ptr 8 1 4 0 0), (9, .ptr 9 1 7 0 0), (83, .val (.bool ((!((rdl a0.Steps a2.Step).From == a1.Node)) || ((!(a2.Draw == 0)) && ((rdl a0.Steps a2.Step).Kind != 4)))))]) (H1 := [⟨10, [(TGraph.lit a0)], 0, none⟩, ⟨4, [(TState.lit a1)], 0, none⟩, ⟨2, [(TMove.lit a2)], 0, none⟩, ⟨4, [[.val (.int .i64 0), .val (.slice none 0 0), .val (.int .u64 0), .val (.slice none 0 0)]], 0, none⟩, ⟨1, a1.Env.map (cInt .i64), 0, none⟩, Blk.hole, ⟨1, a1.Stack.map (cInt .i64), 0, none⟩, Blk.hole, ⟨4, [[.val (.int .i64 a1.Node), .own 4 a1.Env.length, .val (.int .u64 a1.Marks), .own 6 a1.Stack.length]], 0, none⟩, ⟨7, [(TStep.lit (rdl a0.Steps a2.Step))], 0, none⟩]) rfl ?_ ?_
      · by_cases c6 : (rdl a0.Steps a2.Step).From = a1.Node
        · by_cases c7 : a2.Draw = 0
          · exact (.op 0 rfl (faP fa47_0 rfl) <| .op 0 rfl (ldP rfl sz3 ag3 rfl) <| .op 0 rfl (faP fa33_0 rfl) <| .op 0 rfl (ldP rfl sz3 ag3 rfl) <| .op 0 rfl (neI rfl rfl) <| .op 0 rfl (mvV rfl) <| .op 0 (gT rfl rfl rfl (bne_eq_false_iff_eq.mpr c6)) (faP fa44_1 rfl) <| .op 0 (gT rfl rfl rfl (bne_eq_false_iff_eq.mpr c6)) (ldP rfl sz2 ag2 rfl) <| .op 0 (gT rfl rfl rfl (bne_eq_false_iff_eq.mpr c6)) (neI rfl rfl) <| .op 0 (gT rfl rfl rfl (bne_eq_false_iff_eq.mpr c6)) (mvV rfl) <| .no (gF rfl rfl rfl (bne_eq_false_iff_eq.mpr c7)) <| .no (gF rfl rfl rfl (bne_eq_false_iff_eq.mpr c7)) <| .no (gF rfl rfl rfl (bne_eq_false_iff_eq.mpr c7)) <| .op 0 (gT rfl rfl rfl (bne_eq_false_iff_eq.mpr c6)) (pkFV rfl (bne_eq_false_iff_eq.mpr c7) rfl) <| .op 0 rfl (pkFV rfl (bne_eq_false_iff_eq.mpr c6) rfl) <| .nilL _ ⟨.ptr rfl, .ptr rfl, .ptr rfl, .ptr rfl, .ptr rfl, .ptr rfl, cB rfl (mOrF (bnotF (beq_iff_eq.mpr c6)) (mAndF (bnotF (beq_iff_eq.mpr c7)))), trivial⟩)
          · exact (.op 0 rfl (faP fa47_0 rfl) <| .op 0 rfl (ldP rfl sz3 ag3 rfl) <| .op 0 rfl (faP fa33_0 rfl) <| .op 0 rfl (ldP rfl sz3 ag3 rfl) <| .op 0 rfl (neI rfl rfl) <| .op 0 rfl (mvV rfl) <| .op 0 (gT rfl rfl rfl (bne_eq_false_iff_eq.mpr c6)) (faP fa44_1 rfl) <| .op 0 (gT rfl rfl rfl (bne_eq_false_iff_eq.mpr c6)) (ldP rfl sz2 ag2 rfl) <| .op 0 (gT rfl rfl rfl (bne_eq_false_iff_eq.mpr c6)) (neI rfl rfl) <| .op 0 (gT rfl rfl rfl (bne_eq_false_iff_eq.mpr c6)) (mvV rfl) <| .op 0 (gT rfl rfl rfl (bne_iff_ne.mpr c7)) (faP fa47_2 rfl) <| .op 0 (gT rfl rfl rfl (bne_iff_ne.mpr c7)) (ldP rfl sz45 ag45 rfl) <| .op 0 (gT rfl rfl rfl (bne_iff_ne.mpr c7)) (neI rfl rfl) <| .op 0 (gT rfl rfl rfl (bne_eq_false_iff_eq.mpr c6)) (pkTV rfl (bne_iff_ne.mpr c7) rfl) <| .op 0 rfl (pkFV rfl (bne_eq_false_iff_eq.mpr c6) rfl) <| .nilL _ ⟨.ptr rfl, .ptr rfl, .ptr rfl, .ptr rfl, .ptr rfl, .ptr rfl, cB rfl (mOrF (bnotF (beq_iff_eq.mpr c6)) (mAndT (bnotT (beq_eq_false_iff_ne.mpr c7)) rfl)), trivial⟩)
        · exact (.op 0 rfl (faP fa47_0 rfl) <| .op 0 rfl (ldP rfl sz3 ag3 rfl) <| .op 0 rfl (faP fa33_0 rfl) <| .op 0 rfl (ldP rfl sz3 ag3 rfl) <| .op 0 rfl (neI rfl rfl) <| .op 0 rfl (mvV rfl) <| .no (gF rfl rfl rfl (bne_iff_ne.mpr c6)) <| .no (gF rfl rfl rfl (bne_iff_ne.mpr c6)) <| .no (gF rfl rfl rfl (bne_iff_ne.mpr c6)) <| .no (gF rfl rfl rfl (bne_iff_ne.mpr c6)) <| .no (gN rfl rfl rfl) <| .no (gN rfl rfl rfl) <| .no (gN rfl rfl rfl) <| .no (gF rfl rfl rfl (bne_iff_ne.mpr c6)) <| .op 0 rfl (pkTV rfl (bne_iff_ne.mpr c6) rfl) <| .nilL _ ⟨.ptr rfl, .ptr rfl, .ptr rfl, .ptr rfl, .ptr rfl, .ptr rfl, cB rfl (mOrT (bnotT (beq_eq_false_iff_ne.mpr c6))), trivial⟩)
      by_cases c8 : ((!((rdl a0.Steps a2.Step).From == a1.Node)) || ((!(a2.Draw == 0)) && ((rdl a0.Steps a2.Step).Kind != 4))) = true
      · rw [if_pos c8] at h
        refine .condT rfl c8 ?_
        refine .seq <| .reg0 rfl (.op 0 rfl (bldS (cs := [.val (.int .i64 0), .val (.slice none 0 0), .val (.int .u64 0), .val (.slice none 0 0)]) ze33 pl33 rfl rfl) <| .op 0 rfl (stB (cs0 := [.val (.int .i64 0), .val (.slice none 0 0), .val (.int .u64 0), .val (.slice none 0 0)]) (cs := [.val (.int .i64 0), .val (.slice none 0 0), .val (.int .u64 0), .val (.slice none 0 0)]) (cs1 := [.val (.int .i64 0), .val (.slice none 0 0), .val (.int .u64 0), .val (.slice none 0 0)]) rfl rfl sz33 rfl ⟨Nat.le_of_ble_eq_true rfl, rfl⟩ rfl) <| .op 0 rfl (asV rfl) <| .nil0) ?_
        replace h := h.symm
        subst h
        refine .keepL [] [(6, .cptr [.val (.int .i64 0), .rows (([] : List Int).map (cInt .i64)), .val (.int .u64 0), .rows (([] : List Int).map (cInt .i64))] 0), (7, .val (.int .i64 221))] [] (by decide) (by decide) ⟨cFixP rfl rfl (.cons (.free rfl rfl) <| .cons (.nil) <| .cons (.free rfl rfl) <| .cons (.nil) <| .nil), .free rfl rfl, trivial⟩ trivial ?_
        exact .ret rfl
      · rw [if_neg c8] at h
        refine .condF rfl (Bool.eq_false_iff.mpr c8) ?_
        refine .skip <| .seq <| .reg0 rfl (.op 0 rfl (faP fa47_1 rfl) <| .op 0 rfl (ldP rfl sz3 ag3 rfl) <| .op 0 rfl (faP fa33_0 rfl) <| .op 0 rfl (stB (cs0 := [.val (.int .i64 a1.Node), .own 4 a1.Env.length, .val (.int .u64 a1.Marks), .own 6 a1.Stack.length]) (cs := [.val (.int .i64 ((rdl a0.Steps a2.Step).To))]) (cs1 := [.val (.int .i64 ((rdl a0.Steps a2.Step).To)), .own 4 a1.Env.length, .val (.int .u64 a1.Marks), .own 6 a1.Stack.length]) rfl rfl sz3 rfl ⟨Nat.le_of_ble_eq_true rfl, rfl⟩ rfl) <| .nil0) ?_
        refine .seq <| .seq <| .reg0 rfl (.op 0 rfl (faP fa47_2 rfl) <| .op 0 rfl (ldP rfl sz45 ag45 rfl) <| .nil0) ?_
        refine .block <| .seq <| .reg0 rfl (.op 0 rfl (eqI rfl rfl) <| .op 0 rfl (asV rfl) <| .nil0) ?_
        by_cases c9 : (rdl a0.Steps a2.Step).Kind = 2
        · rw [if_pos c9] at h
          refine .condT rfl (beq_iff_eq.mpr c9) ?_
          refine .seq ?_
          obtain ⟨g15_6, h⟩ := h
          refine .reg0 rfl (.op 0 rfl (faP fa33_1 rfl) <| .op 0 rfl (ldP rfl sz30 ag30 rfl) <| .op 0 rfl (faP fa47_3 rfl) <| .op 0 rfl (ldP rfl sz3 ag3 rfl) <| .op 0 rfl (faP fa47_5 rfl) <| .op 0 rfl (ldP rfl sz2 ag2 rfl) <| .op 0 rfl (ixO (l := a1.Env) sl30 rfl rfl rfl rfl g15_6.1 g15_6.2) <| .op 0 rfl (stO (l := a1.Env) (j := ((rdl a0.Steps a2.Step).X)) (cs := [.val (.int .i64 ((rdl a0.Steps a2.Step).K))]) ((rdl a0.Steps a2.Step).K) sl30 rfl rfl sz2 rfl rfl g15_6.1 g15_6.2 (Nat.zero_le _) ⟨Nat.le_of_ble_eq_true rfl, rfl⟩ rfl) <| .nil0) ?_
          obtain ⟨t16_4, g16_4, h⟩ := h
          refine .reg0 rfl (.op 0 rfl (faP fa33_2 rfl) <| .op 0 rfl (ldP rfl sz31 ag31 rfl) <| .op 0 rfl (faP fa47_3 rfl) <| .op 0 rfl (ldP rfl sz3 ag3 rfl) <| .callI rfl (callee_of rfl go33 rfl) (.pure rfl rfl (r22_mark.D g16_4)) <| .op 0 rfl (faP fa33_2 rfl) <| .op 0 rfl (stB (cs0 := [.val (.int .i64 ((rdl a0.Steps a2.Step).To)), .own 4 a1.Env.length, .val (.int .u64 a1.Marks), .own 6 a1.Stack.length]) (cs := [.val (.int .u64 t16_4)]) (cs1 := [.val (.int .i64 ((rdl a0.Steps a2.Step).To)), .own 4 a1.Env.length, .val (.int .u64 t16_4), .own 6 a1.Stack.length]) rfl rfl sz31 rfl ⟨Nat.le_of_ble_eq_true rfl, rfl⟩ rfl) <| .nil0) ?_
          refine .inBlock <| .seq <| .reg0 rfl (.op 0 rfl (ldG rfl sz33 ag33 rfl) <| .op 0 rfl (stB (cs0 := [.val (.int .i64 0), .val (.slice none 0 0), .val (.int .u64 0), .val (.slice none 0 0)]) (cs := [.val (.int .i64 ((rdl a0.Steps a2.Step).To)), .own 4 a1.Env.length, .val (.int .u64 t16_4), .own 6 a1.Stack.length]) (cs1 := [.val (.int .i64 ((rdl a0.Steps a2.Step).To)), .own 4 a1.Env.length, .val (.int .u64 t16_4), .own 6 a1.Stack.length]) rfl rfl sz33 rfl ⟨Nat.le_of_ble_eq_true rfl, rfl⟩ rfl) <| .op 0 rfl (asV rfl) <| .nil0) ?_
          replace h := h.symm
          subst h
          refine .keepL [] [(6, .cptr [.val (.int .i64 ((rdl a0.Steps a2.Step).To)), .rows ((setl a1.Env ((rdl a0.Steps a2.Step).X) ((rdl a0.Steps a2.Step).K)).map (cInt .i64)), .val (.int .u64 t16_4), .rows (a1.Stack.map (cInt .i64))] 0), (7, .val (.int .i64 0))] [] (by decide) (by decide) ⟨cFixP rfl rfl (.cons (.free rfl rfl) <| .cons (cFixO (l := (setl a1.Env ((rdl a0.Steps a2.Step).X) ((rdl a0.Steps a2.Step).K))) sl30 rfl rfl (by simp only [setl, List.length_set]) rfl) <| .cons (.free rfl rfl) <| .cons (cFixO (l := a1.Stack) sl23 rfl rfl rfl rfl) <| .nil), .free rfl rfl, trivial⟩ trivial ?_
          exact .ret rfl
        · rw [if_neg c9] at h
          refine .condF rfl (beq_eq_false_iff_ne.mpr c9) ?_
          refine .seq <| .reg0 rfl (.op 0 rfl (eqI rfl rfl) <| .op 0 rfl (asV rfl) <| .nil0) ?_
          by_cases c10 : (rdl a0.Steps a2.Step).Kind = 3
          · rw [if_pos c10] at h
            refine .condT rfl (beq_iff_eq.mpr c10) ?_
            refine .seq ?_
            obtain ⟨g19_8, h⟩ := h
            obtain ⟨g19_10, h⟩ := h
            refine .reg1 (e1 := listEnv [(4, .ptr 1 1 4 0 0), (6, .ptr 3 1 4 0 0), (8, .ptr 8 1 4 0 0), (9, .ptr 9 1 7 0 0)]) (H1 := [⟨10, [(TGraph.lit a0)], 0, none⟩, ⟨4, [(TState.lit a1)], 0, none⟩, ⟨2, [(TMove.lit a2)], 0, none⟩, ⟨4, [[.val (.int .i64 0), .val (.slice none 0 0), .val (.int .u64 0), .val (.slice none 0 0)]], 0, none⟩, ⟨1, (setl a1.Env ((rdl a0.Steps a2.Step).X) (rdl a1.Env ((rdl a0.Steps a2.Step).Y))).map (cInt .i64), 0, none⟩, Blk.hole, ⟨1, a1.Stack.map (cInt .i64), 0, none⟩, Blk.hole, ⟨4, [[.val (.int .i64 ((rdl a0.Steps a2.Step).To)), .own 4 a1.Env.length, .val (.int .u64 a1.Marks), .own 6 a1.Stack.length]], 0, none⟩, ⟨7, [(TStep.lit (rdl a0.Steps a2.Step))], 0, none⟩]) rfl ?_ ?_
            · exact .drawM [(10, 117, .ptr 4 a1.Env.length 1 (Int.toNat ((rdl a0.Steps a2.Step).X)) 0), (9, 116, .val (.int .i64 (rdl a1.Env ((rdl a0.Steps a2.Step).Y)))), (8, 115, .cptr ((cInt .i64) (rdl a1.Env ((rdl a0.Steps a2.Step).Y))) 0), (7, 114, .val (.int .i64 ((rdl a0.Steps a2.Step).Y))), (6, 113, .ptr 9 1 7 0 4), (5, 112, .rows (a1.Env.map (cInt .i64))), (4, 111, .ptr 1 1 4 0 1), (3, 110, .val (.int .i64 ((rdl a0.Steps a2.Step).X))), (2, 109, .ptr 9 1 7 0 3), (1, 108, .own 4 a1.Env.length), (0, 107, .ptr 8 1 4 0 1)] [(11, 4, ⟨1, (setl a1.Env ((rdl a0.Steps a2.Step).X) (rdl a1.Env ((rdl a0.Steps a2.Step).Y))).map (cInt .i64), 0, none⟩)] [[], [0], [], [2], [], [4], [], [6], [5, 4, 7, 6], [8, 5, 4, 7, 6], [1, 0, 3, 2, 4, 5, 6, 7, 8, 9], [10, 1, 0, 3, 2, 4, 5, 6, 7, 8, 9]] (by rfl) (by rfl) (by rfl) (by exact ⟨fun S hS hD hn => .one 0 hS hD hn rfl rfl (faP fa33_1 rfl) rfl rfl rfl, fun S hS hD hn => .one 0 hS hD hn rfl rfl (ldP rfl sz30 ag30 rfl) rfl rfl rfl, fun S hS hD hn => .one 0 hS hD hn rfl rfl (faP fa47_3 rfl) rfl rfl rfl, fun S hS hD hn => .one 0 hS hD hn rfl rfl (ldP rfl sz3 ag3 rfl) rfl rfl rfl, fun S hS hD hn => .one 0 hS hD hn rfl rfl (faP fa33_1 rfl) rfl rfl rfl, fun S hS hD hn => .one 0 hS hD hn rfl rfl (ldP rfl sz30 ag30 rfl) rfl rfl rfl, fun S hS hD hn => .one 0 hS hD hn rfl rfl (faP fa47_4 rfl) rfl rfl rfl, fun S hS hD hn => .one 0 hS hD hn rfl rfl (ldP rfl sz3 ag3 rfl) rfl rfl rfl, fun S hS hD hn => .one 0 hS hD hn rfl rfl (ixR (l := a1.Env) (lit := (cInt .i64)) sl30 rfl rfl (fun _ => rfl) g19_8.1 g19_8.2) rfl rfl rfl, fun S hS hD hn => .one 0 hS hD hn rfl rfl (ldC rfl sz2 ag2 rfl) rfl rfl rfl, fun S hS hD hn => .one 0 hS hD hn rfl rfl (ixO (l := a1.Env) sl30 rfl rfl rfl rfl g19_10.1 g19_10.2) rfl rfl rfl, fun S hS hD hn => .one0 0 rfl rfl (stO (l := a1.Env) (j := ((rdl a0.Steps a2.Step).X)) (cs := [.val (.int .i64 (rdl a1.Env ((rdl a0.Steps a2.Step).Y)))]) (rdl a1.Env ((rdl a0.Steps a2.Step).Y)) sl30 rfl rfl sz2 rfl rfl g19_10.1 g19_10.2 (Nat.zero_le _) ⟨Nat.le_of_ble_eq_true rfl, rfl⟩ rfl) (drawE_other _ _ _ _ rfl) rfl, trivial⟩) _ (by exact ⟨.ptr rfl, .ptr rfl, .ptr rfl, .ptr rfl, trivial⟩) (by rfl)
            obtain ⟨g20_9, h⟩ := h
            obtain ⟨t20_12, g20_12, h⟩ := h
            refine .reg0 rfl (.op 0 rfl (faP fa33_2 rfl) <| .op 0 rfl (ldP rfl sz31 ag31 rfl) <| .op 0 rfl (faP fa47_3 rfl) <| .op 0 rfl (ldP rfl sz3 ag3 rfl) <| .op 0 rfl (faP fa33_2 rfl) <| .op 0 rfl (ldP rfl sz31 ag31 rfl) <| .op 0 rfl (faP fa47_4 rfl) <| .op 0 rfl (ldP rfl sz3 ag3 rfl) <| .op 0 rfl (convI un3 un78 rfl) <| .op 0 rfl (shr_ rfl rfl g20_9) <| .op 0 rfl (andI rfl rfl) <| .op 0 rfl (eqI rfl rfl) <| .callI rfl (callee_of rfl go33 rfl) (.pure rfl rfl (r22_mark.D g20_12)) <| .op 0 rfl (faP fa33_2 rfl) <| .op 0 rfl (stB (cs0 := [.val (.int .i64 ((rdl a0.Steps a2.Step).To)), .own 4 a1.Env.length, .val (.int .u64 a1.Marks), .own 6 a1.Stack.length]) (cs := [.val (.int .u64 t20_12)]) (cs1 := [.val (.int .i64 ((rdl a0.Steps a2.Step).To)), .own 4 a1.Env.length, .val (.int .u64 t20_12), .own 6 a1.Stack.length]) rfl rfl sz31 rfl ⟨Nat.le_of_ble_eq_true rfl, rfl⟩ rfl) <| .nil0) ?_
            refine .inBlock <| .seq <| .reg0 rfl (.op 0 rfl (ldG rfl sz33 ag33 rfl) <| .op 0 rfl (stB (cs0 := [.val (.int .i64 0), .val (.slice none 0 0), .val (.int .u64 0), .val (.slice none 0 0)]) (cs := [.val (.int .i64 ((rdl a0.Steps a2.Step).To)), .own 4 a1.Env.length, .val (.int .u64 t20_12), .own 6 a1.Stack.length]) (cs1 := [.val (.int .i64 ((rdl a0.Steps a2.Step).To)), .own 4 a1.Env.length, .val (.int .u64 t20_12), .own 6 a1.Stack.length]) rfl rfl sz33 rfl ⟨Nat.le_of_ble_eq_true rfl, rfl⟩ rfl) <| .op 0 rfl (asV rfl) <| .nil0) ?_
            replace h := h.symm
            subst h
            refine .keepL [] [(6, .cptr [.val (.int .i64 ((rdl a0.Steps a2.Step).To)), .rows ((setl a1.Env ((rdl a0.Steps a2.Step).X) (rdl a1.Env ((rdl a0.Steps a2.Step).Y))).map (cInt .i64)), .val (.int .u64 t20_12), .rows (a1.Stack.map (cInt .i64))] 0), (7, .val (.int .i64 0))] [] (by decide) (by decide) ⟨cFixP rfl rfl (.cons (.free rfl rfl) <| .cons (cFixO (l := (setl a1.Env ((rdl a0.Steps a2.Step).X) (rdl a1.Env ((rdl a0.Steps a2.Step).Y)))) sl30 rfl rfl (by simp only [setl, List.length_set]) rfl) <| .cons (.free rfl rfl) <| .cons (cFixO (l := a1.Stack) sl23 rfl rfl rfl rfl) <| .nil), .free rfl rfl, trivial⟩ trivial ?_
            exact .ret rfl
          · rw [if_neg c10] at h
            refine .condF rfl (beq_eq_false_iff_ne.mpr c10) ?_
            refine .seq <| .reg0 rfl (.op 0 rfl (eqI rfl rfl) <| .op 0 rfl (asV rfl) <| .nil0) ?_
            by_cases c11 : (rdl a0.Steps a2.Step).Kind = 4
            · rw [if_pos c11] at h
              refine .condT rfl (beq_iff_eq.mpr c11) ?_
              refine .seq ?_
              obtain ⟨g23_6, h⟩ := h
              refine .reg0 rfl (.op 0 rfl (faP fa33_1 rfl) <| .op 0 rfl (ldP rfl sz30 ag30 rfl) <| .op 0 rfl (faP fa47_3 rfl) <| .op 0 rfl (ldP rfl sz3 ag3 rfl) <| .op 0 rfl (faP fa44_1 rfl) <| .op 0 rfl (ldP rfl sz2 ag2 rfl) <| .op 0 rfl (ixO (l := a1.Env) sl30 rfl rfl rfl rfl g23_6.1 g23_6.2) <| .op 0 rfl (stO (l := a1.Env) (j := ((rdl a0.Steps a2.Step).X)) (cs := [.val (.int .i64 a2.Draw)]) a2.Draw sl30 rfl rfl sz2 rfl rfl g23_6.1 g23_6.2 (Nat.zero_le _) ⟨Nat.le_of_ble_eq_true rfl, rfl⟩ rfl) <| .nil0) ?_
              obtain ⟨t24_4, g24_4, h⟩ := h
              refine .reg0 rfl (.op 0 rfl (faP fa33_2 rfl) <| .op 0 rfl (ldP rfl sz31 ag31 rfl) <| .op 0 rfl (faP fa47_3 rfl) <| .op 0 rfl (ldP rfl sz3 ag3 rfl) <| .callI rfl (callee_of rfl go33 rfl) (.pure rfl rfl (r22_mark.D g24_4)) <| .op 0 rfl (faP fa33_2 rfl) <| .op 0 rfl (stB (cs0 := [.val (.int .i64 ((rdl a0.Steps a2.Step).To)), .own 4 a1.Env.length, .val (.int .u64 a1.Marks), .own 6 a1.Stack.length]) (cs := [.val (.int .u64 t24_4)]) (cs1 := [.val (.int .i64 ((rdl a0.Steps a2.Step).To)), .own 4 a1.Env.length, .val (.int .u64 t24_4), .own 6 a1.Stack.length]) rfl rfl sz31 rfl ⟨Nat.le_of_ble_eq_true rfl, rfl⟩ rfl) <| .nil0) ?_
              refine .inBlock <| .seq <| .reg0 rfl (.op 0 rfl (ldG rfl sz33 ag33 rfl) <| .op 0 rfl (stB (cs0 := [.val (.int .i64 0), .val (.slice none 0 0), .val (.int .u64 0), .val (.slice none 0 0)]) (cs := [.val (.int .i64 ((rdl a0.Steps a2.Step).To)), .own 4 a1.Env.length, .val (.int .u64 t24_4), .own 6 a1.Stack.length]) (cs1 := [.val (.int .i64 ((rdl a0.Steps a2.Step).To)), .own 4 a1.Env.length, .val (.int .u64 t24_4), .own 6 a1.Stack.length]) rfl rfl sz33 rfl ⟨Nat.le_of_ble_eq_true rfl, rfl⟩ rfl) <| .op 0 rfl (asV rfl) <| .nil0) ?_
              replace h := h.symm
              subst h
              refine .keepL [] [(6, .cptr [.val (.int .i64 ((rdl a0.Steps a2.Step).To)), .rows ((setl a1.Env ((rdl a0.Steps a2.Step).X) a2.Draw).map (cInt .i64)), .val (.int .u64 t24_4), .rows (a1.Stack.map (cInt .i64))] 0), (7, .val (.int .i64 0))] [] (by decide) (by decide) ⟨cFixP rfl rfl (.cons (.free rfl rfl) <| .cons (cFixO (l := (setl a1.Env ((rdl a0.Steps a2.Step).X) a2.Draw)) sl30 rfl rfl (by simp only [setl, List.length_set]) rfl) <| .cons (.free rfl rfl) <| .cons (cFixO (l := a1.Stack) sl23 rfl rfl rfl rfl) <| .nil), .free rfl rfl, trivial⟩ trivial ?_
              exact .ret rfl
            · rw [if_neg c11] at h
              refine .condF rfl (beq_eq_false_iff_ne.mpr c11) ?_
              refine .seq <| .reg0 rfl (.op 0 rfl (eqI rfl rfl) <| .op 0 rfl (asV rfl) <| .nil0) ?_
              by_cases c12 : (rdl a0.Steps a2.Step).Kind = 5
              · rw [if_pos c12] at h
                refine .condT rfl (beq_iff_eq.mpr c12) ?_
                obtain ⟨t27_4, g27_4, h⟩ := h
                refine .reg0 rfl (.op 0 rfl (faP fa33_2 rfl) <| .op 0 rfl (ldP rfl sz31 ag31 rfl) <| .op 0 rfl (faP fa47_3 rfl) <| .op 0 rfl (ldP rfl sz3 ag3 rfl) <| .callI rfl (callee_of rfl go33 rfl) (.pure rfl rfl (r22_mark.D g27_4)) <| .op 0 rfl (faP fa33_2 rfl) <| .op 0 rfl (stB (cs0 := [.val (.int .i64 ((rdl a0.Steps a2.Step).To)), .own 4 a1.Env.length, .val (.int .u64 a1.Marks), .own 6 a1.Stack.length]) (cs := [.val (.int .u64 t27_4)]) (cs1 := [.val (.int .i64 ((rdl a0.Steps a2.Step).To)), .own 4 a1.Env.length, .val (.int .u64 t27_4), .own 6 a1.Stack.length]) rfl rfl sz31 rfl ⟨Nat.le_of_ble_eq_true rfl, rfl⟩ rfl) <| .nil0) ?_
                refine .inBlock <| .seq <| .reg0 rfl (.op 0 rfl (ldG rfl sz33 ag33 rfl) <| .op 0 rfl (stB (cs0 := [.val (.int .i64 0), .val (.slice none 0 0), .val (.int .u64 0), .val (.slice none 0 0)]) (cs := [.val (.int .i64 ((rdl a0.Steps a2.Step).To)), .own 4 a1.Env.length, .val (.int .u64 t27_4), .own 6 a1.Stack.length]) (cs1 := [.val (.int .i64 ((rdl a0.Steps a2.Step).To)), .own 4 a1.Env.length, .val (.int .u64 t27_4), .own 6 a1.Stack.length]) rfl rfl sz33 rfl ⟨Nat.le_of_ble_eq_true rfl, rfl⟩ rfl) <| .op 0 rfl (asV rfl) <| .nil0) ?_
                replace h := h.symm
                subst h
                refine .keepL [] [(6, .cptr [.val (.int .i64 ((rdl a0.Steps a2.Step).To)), .rows (a1.Env.map (cInt .i64)), .val (.int .u64 t27_4), .rows (a1.Stack.map (cInt .i64))] 0), (7, .val (.int .i64 0))] [] (by decide) (by decide) ⟨cFixP rfl rfl (.cons (.free rfl rfl) <| .cons (cFixO (l := a1.Env) sl30 rfl rfl rfl rfl) <| .cons (.free rfl rfl) <| .cons (cFixO (l := a1.Stack) sl23 rfl rfl rfl rfl) <| .nil), .free rfl rfl, trivial⟩ trivial ?_
                exact .ret rfl
              · rw [if_neg c12] at h
                refine .condF rfl (beq_eq_false_iff_ne.mpr c12) ?_
                refine .seq <| .reg0 rfl (.op 0 rfl (eqI rfl rfl) <| .op 0 rfl (asV rfl) <| .nil0) ?_
                by_cases c13 : (rdl a0.Steps a2.Step).Kind = 6
                · rw [if_pos c13] at h
                  refine .condT rfl (beq_iff_eq.mpr c13) ?_
                  obtain ⟨t30_4, g30_4, h⟩ := h
                  refine .reg0 rfl (.op 0 rfl (faP fa33_2 rfl) <| .op 0 rfl (ldP rfl sz31 ag31 rfl) <| .op 0 rfl (faP fa47_3 rfl) <| .op 0 rfl (ldP rfl sz3 ag3 rfl) <| .callI rfl (callee_of rfl go33 rfl) (.pure rfl rfl (r22_mark.D g30_4)) <| .op 0 rfl (faP fa33_2 rfl) <| .op 0 rfl (stB (cs0 := [.val (.int .i64 ((rdl a0.Steps a2.Step).To)), .own 4 a1.Env.length, .val (.int .u64 a1.Marks), .own 6 a1.Stack.length]) (cs := [.val (.int .u64 t30_4)]) (cs1 := [.val (.int .i64 ((rdl a0.Steps a2.Step).To)), .own 4 a1.Env.length, .val (.int .u64 t30_4), .own 6 a1.Stack.length]) rfl rfl sz31 rfl ⟨Nat.le_of_ble_eq_true rfl, rfl⟩ rfl) <| .nil0) ?_
                  refine .inBlock <| .seq <| .reg0 rfl (.op 0 rfl (ldG rfl sz33 ag33 rfl) <| .op 0 rfl (stB (cs0 := [.val (.int .i64 0), .val (.slice none 0 0), .val (.int .u64 0), .val (.slice none 0 0)]) (cs := [.val (.int .i64 ((rdl a0.Steps a2.Step).To)), .own 4 a1.Env.length, .val (.int .u64 t30_4), .own 6 a1.Stack.length]) (cs1 := [.val (.int .i64 ((rdl a0.Steps a2.Step).To)), .own 4 a1.Env.length, .val (.int .u64 t30_4), .own 6 a1.Stack.length]) rfl rfl sz33 rfl ⟨Nat.le_of_ble_eq_true rfl, rfl⟩ rfl) <| .op 0 rfl (asV rfl) <| .nil0) ?_
                  replace h := h.symm
                  subst h
                  refine .keepL [] [(6, .cptr [.val (.int .i64 ((rdl a0.Steps a2.Step).To)), .rows (a1.Env.map (cInt .i64)), .val (.int .u64 t30_4), .rows (a1.Stack.map (cInt .i64))] 0), (7, .val (.int .i64 0))] [] (by decide) (by decide) ⟨cFixP rfl rfl (.cons (.free rfl rfl) <| .cons (cFixO (l := a1.Env) sl30 rfl rfl rfl rfl) <| .cons (.free rfl rfl) <| .cons (cFixO (l := a1.Stack) sl23 rfl rfl rfl rfl) <| .nil), .free rfl rfl, trivial⟩ trivial ?_
                  exact .ret rfl
                · rw [if_neg c13] at h
                  refine .condF rfl (beq_eq_false_iff_ne.mpr c13) ?_
                  refine .seq <| .reg0 rfl (.op 0 rfl (eqI rfl rfl) <| .op 0 rfl (asV rfl) <| .nil0) ?_
                  by_cases c14 : (rdl a0.Steps a2.Step).Kind = 8
                  · rw [if_pos c14] at h
                    refine .condT rfl (beq_iff_eq.mpr c14) ?_
                    refine .seq <| .seq <| .reg0 rfl (.op 0 rfl (faP fa33_3 rfl) <| .op 0 rfl (ldP rfl sz23 ag23 rfl) <| .op 0 rfl (lnR (l := a1.Stack) sl23 rfl) <| .op 0 rfl (geI rfl rfl) <| .nil0) ?_
                    by_cases c15 : (a1.Stack.length : Int) ≥ 4096
                    · rw [if_pos c15] at h
                      refine .condT rfl (decide_eq_true c15) ?_
                      refine .seq <| .reg0 rfl (.op 0 rfl (bldS (cs := [.val (.int .i64 0), .val (.slice none 0 0), .val (.int .u64 0), .val (.slice none 0 0)]) ze33 pl33 rfl rfl) <| .op 0 rfl (stB (cs0 := [.val (.int .i64 0), .val (.slice none 0 0), .val (.int .u64 0), .val (.slice none 0 0)]) (cs := [.val (.int .i64 0), .val (.slice none 0 0), .val (.int .u64 0), .val (.slice none 0 0)]) (cs1 := [.val (.int .i64 0), .val (.slice none 0 0), .val (.int .u64 0), .val (.slice none 0 0)]) rfl rfl sz33 rfl ⟨Nat.le_of_ble_eq_true rfl, rfl⟩ rfl) <| .op 0 rfl (asV rfl) <| .nil0) ?_
                      replace h := h.symm
                      subst h
                      refine .keepL [] [(6, .cptr [.val (.int .i64 0), .rows (([] : List Int).map (cInt .i64)), .val (.int .u64 0), .rows (([] : List Int).map (cInt .i64))] 0), (7, .val (.int .i64 2))] [] (by decide) (by decide) ⟨cFixP rfl rfl (.cons (.free rfl rfl) <| .cons (.nil) <| .cons (.free rfl rfl) <| .cons (.nil) <| .nil), .free rfl rfl, trivial⟩ trivial ?_
                      exact .ret rfl
                    · rw [if_neg c15] at h
                      refine .condF rfl (decide_eq_false c15) ?_
                      refine .skip <| .seq ?_
                      obtain ⟨g35_6, h⟩ := h
                      obtain ⟨g35_9, h⟩ := h
                      refine .reg1 (e1 := listEnv [(4, .ptr 1 1 4 0 0), (6, .ptr 3 1 4 0 0), (8, .ptr 8 1 4 0 0), (9, .ptr 9 1 7 0 0)]) (H1 := [⟨10, [(TGraph.lit a0)], 0, none⟩, ⟨4, [(TState.lit a1)], 0, none⟩, ⟨2, [(TMove.lit a2)], 0, none⟩, ⟨4, [[.val (.int .i64 0), .val (.slice none 0 0), .val (.int .u64 0), .val (.slice none 0 0)]], 0, none⟩, ⟨1, a1.Env.map (cInt .i64), 0, none⟩, Blk.hole, ⟨1, a1.Stack.map (cInt .i64), 0, none⟩, Blk.hole, ⟨4, [[.val (.int .i64 (rdl a0.Entry ((rdl a0.Sites ((rdl a0.Steps a2.Step).Site)).Proc))), .own 4 a1.Env.length, .val (.int .u64 a1.Marks), .own 6 a1.Stack.length]], 0, none⟩, ⟨7, [(TStep.lit (rdl a0.Steps a2.Step))], 0, none⟩]) rfl ?_ ?_
                      · exact .drawM [(11, 181, .ptr 8 1 4 0 0), (10, 180, .val (.int .i64 (rdl a0.Entry ((rdl a0.Sites ((rdl a0.Steps a2.Step).Site)).Proc)))), (9, 179, .cptr ((cInt .i64) (rdl a0.Entry ((rdl a0.Sites ((rdl a0.Steps a2.Step).Site)).Proc))) 0), (8, 178, .val (.int .i64 ((rdl a0.Sites ((rdl a0.Steps a2.Step).Site)).Proc))), (7, 177, .cptr (TSite.lit (rdl a0.Sites ((rdl a0.Steps a2.Step).Site))) 1), (6, 176, .cptr (TSite.lit (rdl a0.Sites ((rdl a0.Steps a2.Step).Site))) 0), (5, 175, .val (.int .i64 ((rdl a0.Steps a2.Step).Site))), (4, 174, .ptr 9 1 7 0 6), (3, 173, .rows (a0.Sites.map TSite.cells)), (2, 172, .ptr 0 1 10 0 7), (1, 171, .rows (a0.Entry.map (cInt .i64))), (0, 170, .ptr 0 1 10 0 2)] [(12, 8, ⟨4, [[.val (.int .i64 (rdl a0.Entry ((rdl a0.Sites ((rdl a0.Steps a2.Step).Site)).Proc))), .own 4 a1.Env.length, .val (.int .u64 a1.Marks), .own 6 a1.Stack.length]], 0, none⟩)] [[], [0], [], [2], [], [4], [3, 2, 5, 4], [6, 3, 2, 5, 4], [7, 6, 3, 2, 5, 4], [1, 0, 8, 7, 6, 3, 2, 5, 4], [9, 1, 0, 8, 7, 6, 3, 2, 5, 4], [0, 1, 2, 3, 4, 5, 6, 7, 8, 9, 10], [11, 0, 1, 2, 3, 4, 5, 6, 7, 8, 9, 10]] (by rfl) (by rfl) (by rfl) (by exact ⟨fun S hS hD hn => .one 0 hS hD hn rfl rfl (faP fa29_2 rfl) rfl rfl rfl, fun S hS hD hn => .one 0 hS hD hn rfl rfl (ldP rfl sz23 ag23 rfl) rfl rfl rfl, fun S hS hD hn => .one 0 hS hD hn rfl rfl (faP fa29_7 rfl) rfl rfl rfl, fun S hS hD hn => .one 0 hS hD hn rfl rfl (ldP rfl sz25 ag25 rfl) rfl rfl rfl, fun S hS hD hn => .one 0 hS hD hn rfl rfl (faP fa47_6 rfl) rfl rfl rfl, fun S hS hD hn => .one 0 hS hD hn rfl rfl (ldP rfl sz3 ag3 rfl) rfl rfl rfl, fun S hS hD hn => .one 0 hS hD hn rfl rfl (ixR (l := a0.Sites) (lit := TSite.lit) sl25 rfl rfl (fun _ => rfl) g35_6.1 g35_6.2) rfl rfl rfl, fun S hS hD hn => .one 0 hS hD hn rfl rfl (faC fa76_1 rfl) rfl rfl rfl, fun S hS hD hn => .one 0 hS hD hn rfl rfl (ldC rfl sz3 ag3 rfl) rfl rfl rfl, fun S hS hD hn => .one 0 hS hD hn rfl rfl (ixR (l := a0.Entry) (lit := (cInt .i64)) sl23 rfl rfl (fun _ => rfl) g35_9.1 g35_9.2) rfl rfl rfl, fun S hS hD hn => .one 0 hS hD hn rfl rfl (ldC rfl sz3 ag3 rfl) rfl rfl rfl, fun S hS hD hn => .one 0 hS hD hn rfl rfl (faP fa33_0 rfl) rfl rfl rfl, fun S hS hD hn => .one0 0 rfl rfl (stB (cs0 := [.val (.int .i64 ((rdl a0.Steps a2.Step).To)), .own 4 a1.Env.length, .val (.int .u64 a1.Marks), .own 6 a1.Stack.length]) (cs := [.val (.int .i64 (rdl a0.Entry ((rdl a0.Sites ((rdl a0.Steps a2.Step).Site)).Proc)))]) (cs1 := [.val (.int .i64 (rdl a0.Entry ((rdl a0.Sites ((rdl a0.Steps a2.Step).Site)).Proc))), .own 4 a1.Env.length, .val (.int .u64 a1.Marks), .own 6 a1.Stack.length]) rfl rfl sz3 rfl ⟨Nat.le_of_ble_eq_true rfl, rfl⟩ rfl) (drawE_other _ _ _ _ rfl) rfl, trivial⟩) _ (by exact ⟨.ptr rfl, .ptr rfl, .ptr rfl, .ptr rfl, trivial⟩) (by rfl)
                      obtain ⟨g36_5, h⟩ := h
                      refine .room 0 <| .room 0 <| .reg0 rfl (.op 0 rfl (faP fa47_6 rfl) <| .op 0 rfl (ldP rfl sz3 ag3 rfl) <| .op 10 rfl (bldL (s := 1) (cs := [.val (.int .i64 ((rdl a0.Steps a2.Step).Site))]) un23 sz3 ze3 ⟨by decide, rfl, by decide⟩ rfl rfl rfl rfl) <| .op 0 rfl (faP fa33_3 rfl) <| .op 0 rfl (ldP rfl sz23 ag23 rfl) <| .op 0 rfl (apL (l := [(rdl a0.Steps a2.Step).Site]) a1.Stack sl23 rfl rfl rfl (Nat.zero_le _) rfl g36_5) <| .op 0 rfl (faP fa33_3 rfl) <| .op 0 rfl (stB (cs0 := [.val (.int .i64 (rdl a0.Entry ((rdl a0.Sites ((rdl a0.Steps a2.Step).Site)).Proc))), .own 4 a1.Env.length, .val (.int .u64 a1.Marks), .own 6 a1.Stack.length]) (cs := [.own 10 (([(rdl a0.Steps a2.Step).Site] ++ a1.Stack).length)]) (cs1 := [.val (.int .i64 (rdl a0.Entry ((rdl a0.Sites ((rdl a0.Steps a2.Step).Site)).Proc))), .own 4 a1.Env.length, .val (.int .u64 a1.Marks), .own 10 (([(rdl a0.Steps a2.Step).Site] ++ a1.Stack).length)]) rfl rfl sz23 rfl ⟨Nat.le_of_ble_eq_true rfl, rfl⟩ rfl) <| .nil0) ?_
                      refine .inBlock <| .seq <| .reg0 rfl (.op 0 rfl (ldG rfl sz33 ag33 rfl) <| .op 0 rfl (stB (cs0 := [.val (.int .i64 0), .val (.slice none 0 0), .val (.int .u64 0), .val (.slice none 0 0)]) (cs := [.val (.int .i64 (rdl a0.Entry ((rdl a0.Sites ((rdl a0.Steps a2.Step).Site)).Proc))), .own 4 a1.Env.length, .val (.int .u64 a1.Marks), .own 10 (([(rdl a0.Steps a2.Step).Site] ++ a1.Stack).length)]) (cs1 := [.val (.int .i64 (rdl a0.Entry ((rdl a0.Sites ((rdl a0.Steps a2.Step).Site)).Proc))), .own 4 a1.Env.length, .val (.int .u64 a1.Marks), .own 10 (([(rdl a0.Steps a2.Step).Site] ++ a1.Stack).length)]) rfl rfl sz33 rfl ⟨Nat.le_of_ble_eq_true rfl, rfl⟩ rfl) <| .op 0 rfl (asV rfl) <| .nil0) ?_
                      replace h := h.symm
                      subst h
                      refine .keepL [] [(6, .cptr [.val (.int .i64 (rdl a0.Entry ((rdl a0.Sites ((rdl a0.Steps a2.Step).Site)).Proc))), .rows (a1.Env.map (cInt .i64)), .val (.int .u64 a1.Marks), .rows (([(rdl a0.Steps a2.Step).Site] ++ a1.Stack).map (cInt .i64))] 0), (7, .val (.int .i64 0))] [] (by decide) (by decide) ⟨cFixP rfl rfl (.cons (.free rfl rfl) <| .cons (cFixO (l := a1.Env) sl30 rfl rfl rfl rfl) <| .cons (.free rfl rfl) <| .cons (cFixO (l := ([(rdl a0.Steps a2.Step).Site] ++ a1.Stack)) sl23 rfl rfl rfl rfl) <| .nil), .free rfl rfl, trivial⟩ trivial ?_
                      exact .ret rfl
                  · rw [if_neg c14] at h
                    refine .condF rfl (beq_eq_false_iff_ne.mpr c14) ?_
                    refine .skip <| .inBlock <| .seq <| .reg0 rfl (.op 0 rfl (ldG rfl sz33 ag33 rfl) <| .op 0 rfl (stB (cs0 := [.val (.int .i64 0), .val (.slice none 0 0), .val (.int .u64 0), .val (.slice none 0 0)]) (cs := [.val (.int .i64 ((rdl a0.Steps a2.Step).To)), .own 4 a1.Env.length, .val (.int .u64 a1.Marks), .own 6 a1.Stack.length]) (cs1 := [.val (.int .i64 ((rdl a0.Steps a2.Step).To)), .own 4 a1.Env.length, .val (.int .u64 a1.Marks), .own 6 a1.Stack.length]) rfl rfl sz33 rfl ⟨Nat.le_of_ble_eq_true rfl, rfl⟩ rfl) <| .op 0 rfl (asV rfl) <| .nil0) ?_
                    replace h := h.symm
                    subst h
                    refine .keepL [] [(6, .cptr [.val (.int .i64 ((rdl a0.Steps a2.Step).To)), .rows (a1.Env.map (cInt .i64)), .val (.int .u64 a1.Marks), .rows (a1.Stack.map (cInt .i64))] 0), (7, .val (.int .i64 0))] [] (by decide) (by decide) ⟨cFixP rfl rfl (.cons (.free rfl rfl) <| .cons (cFixO (l := a1.Env) sl30 rfl rfl rfl rfl) <| .cons (.free rfl rfl) <| .cons (cFixO (l := a1.Stack) sl23 rfl rfl rfl rfl) <| .nil), .free rfl rfl, trivial⟩ trivial ?_
                    exact .ret rfl
end Go.RM.Tryd
