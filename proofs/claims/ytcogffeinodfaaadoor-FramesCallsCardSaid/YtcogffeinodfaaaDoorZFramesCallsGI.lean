/- GI, for the statement FramesCalls: what it needs, no more. -/
import Derived.Test.YtcogffeinodfaaaDoorZFramesCallsGH
set_option linter.unusedVariables false
set_option maxRecDepth 8000
set_option maxHeartbeats 4000000
namespace Go.RM.Tryd
open Go.RM Go.Proofs
variable {X : FuncId → List PV → Heap → PV → Heap → Prop}
def frames_Do.f (a0 : TGraph) (a1 : TState) (a2 : TMove) (r : TState × Int) : Prop :=
  ∃ t2_2 : Int, (frames_Check.f a0 a1 t2_2) ∧ if t2_2 = 0 then (∃ t4_3 : TState × Int, (frames_do.f a0 a1 a2 t4_3) ∧ r = (t4_3.1, t4_3.2)) else (r = ((TState.mk 0 [] 0 []), t2_2))
theorem frames_Do.D {a0 : TGraph} {a1 : TState} {a2 : TMove} {r : TState × Int} (h : frames_Do.f a0 a1 a2 r) : D Tryd.prog X (.callH 14 [.agg (TGraph.lit a0), .agg (TState.lit a1), .agg (TMove.lit a2)] [] (.tuple [.agg (TState.lit r.1), .val (.int .i64 r.2)]) []) := by
  unfold frames_Do.f at h
  refine .enter 22 0 fn14 rfl rfl rfl ?_
  refine .seq <| .room 0 <| .room 0 <| .room 0 <| .room 0 <| .reg0 rfl (.op 0 rfl (bxP (s := 10) (cs := (TGraph.lit a0)) rfl ⟨rfl, by decide, rfl⟩ rfl) <| .op 1 rfl (bxP (s := 4) (cs := (TState.lit a1)) rfl ⟨rfl, by decide, rfl⟩ rfl) <| .op 2 rfl (bxP (s := 2) (cs := (TMove.lit a2)) rfl ⟨rfl, by decide, rfl⟩ rfl) <| .op 3 rfl (alP (s := 4) ze33 ⟨rfl, by decide, rfl⟩ rfl) <| .op 0 rfl (asV rfl) <| .nil0) ?_
  refine .seq <| .seq ?_
  obtain ⟨t2_2, g2_2, h⟩ := h
  refine .reg0 rfl (.op 0 rfl (ldG rfl sz29 ag29 rfl) <| .op 0 rfl (ldG rfl sz33 ag33 rfl) <| .callI rfl (callee_of rfl go20 rfl) (.pure rfl rfl (frames_Check.D g2_2)) <| .op 0 rfl (asV rfl) <| .nil0) ?_
  refine .seq <| .reg0 rfl (.op 0 rfl (mvV rfl) <| .op 0 rfl (neI rfl rfl) <| .nil0) ?_
  by_cases c1 : t2_2 = 0
  · rw [if_pos c1] at h
    refine .condF rfl (bne_eq_false_iff_eq.mpr c1) ?_
    refine .skip <| .seq ?_
    obtain ⟨t4_3, g4_3, h⟩ := h
    refine .reg0 rfl (.op 0 rfl (ldG rfl sz29 ag29 rfl) <| .op 0 rfl (ldG rfl sz33 ag33 rfl) <| .op 0 rfl (ldG rfl sz44 ag44 rfl) <| .callI rfl (callee_of rfl go23 rfl) (.pure rfl rfl (frames_do.D g4_3)) <| .op 0 rfl (exT rfl rfl) <| .op 0 rfl (exT rfl rfl) <| .op 0 rfl (stB (cs0 := [.val (.int .i64 0), .val (.slice none 0 0), .val (.int .u64 0), .val (.slice none 0 0)]) (cs := (TState.lit t4_3.1)) (cs1 := (TState.lit t4_3.1)) rfl rfl sz33 rfl ⟨Nat.le_of_ble_eq_true rfl, rfl⟩ rfl) <| .op 0 rfl (asV rfl) <| .nil0) ?_
    replace h := h.symm
    subst h
    refine .keepL [] [(6, .cptr (TState.lit t4_3.1) 0), (7, .val (.int .i64 t4_3.2))] [] (by decide) (by decide) ⟨cFixP rfl rfl (.cons (.free rfl rfl) <| .cons (.free rfl rfl) <| .cons (.free rfl rfl) <| .cons (.free rfl rfl) <| .nil), .free rfl rfl, trivial⟩ trivial ?_
    exact .ret rfl
  · rw [if_neg c1] at h
    refine .condT rfl (bne_iff_ne.mpr c1) ?_
    refine .seq <| .reg0 rfl (.op 0 rfl (bldS (cs := [.val (.int .i64 0), .val (.slice none 0 0), .val (.int .u64 0), .val (.slice none 0 0)]) ze33 pl33 rfl rfl) <| .op 0 rfl (mvV rfl) <| .op 0 rfl (stB (cs0 := [.val (.int .i64 0), .val (.slice none 0 0), .val (.int .u64 0), .val (.slice none 0 0)]) (cs := [.val (.int .i64 0), .val (.slice none 0 0), .val (.int .u64 0), .val (.slice none 0 0)]) (cs1 := [.val (.int .i64 0), .val (.slice none 0 0), .val (.int .u64 0), .val (.slice none 0 0)]) rfl rfl sz33 rfl ⟨Nat.le_of_ble_eq_true rfl, rfl⟩ rfl) <| .op 0 rfl (asV rfl) <| .nil0) ?_
    replace h := h.symm
    subst h
    refine .keepL [] [(6, .cptr [.val (.int .i64 0), .rows (([] : List Int).map (cInt .i64)), .val (.int .u64 0), .rows (([] : List Int).map (cInt .i64))] 0), (7, .val (.int .i64 t2_2))] [] (by decide) (by decide) ⟨cFixP rfl rfl (.cons (.free rfl rfl) <| .cons (.nil) <| .cons (.free rfl rfl) <| .cons (.nil) <| .nil), .free rfl rfl, trivial⟩ trivial ?_
    exact .ret rfl
def l22_FramesCalls.f (a0 : TGraph) (a1 : TState) (a2 : TMove) (r : Bool) : Prop :=
  ∃ t2_0 : Bool, (l22_awake.f t2_0) ∧ if t2_0 = true then (∃ t3_2 : Bool, (l22_small.f a0 a1 t3_2) ∧ if t3_2 = true then (∃ t4_3 : TState × Int, (frames_Do.f a0 a1 a2 t4_3) ∧ if t4_3.2 = 0 then (∃ t6_2 : Int, (r22_Check.f a0 t4_3.1 t6_2) ∧ if t6_2 = 0 then (if (IntKind.i64.wrap ((t4_3.1.Stack.length : Int) - (a1.Stack.length : Int))) = 0 then (∃ t9_4 : Bool, (l22_numbers.f t4_3.1.Stack a1.Stack t9_4) ∧ r = t9_4) else (if (IntKind.i64.wrap ((t4_3.1.Stack.length : Int) - (a1.Stack.length : Int))) = 1 then (((Cut 1 (t4_3.1.Stack.length : Int) t4_3.1.Stack.length)) ∧ ∃ t11_5 : Bool, (l22_numbers.f (cutl t4_3.1.Stack 1 (t4_3.1.Stack.length : Int)) a1.Stack t11_5) ∧ r = t11_5) else (if (IntKind.i64.wrap ((t4_3.1.Stack.length : Int) - (a1.Stack.length : Int))) = (-1) then (((a2.Step = (-1)) → (Cut 1 (a1.Stack.length : Int) a1.Stack.length)) ∧ ∃ t13_9 : Bool, ((a2.Step = (-1)) → l22_numbers.f t4_3.1.Stack (cutl a1.Stack 1 (a1.Stack.length : Int)) t13_9) ∧ r = ((a2.Step == (-1)) && t13_9)) else (r = false)))) else (r = false)) else (r = ((t4_3.1.Node == 0) && ((IntKind.i64.wrap ((t4_3.1.Stack.length : Int) + (t4_3.1.Env.length : Int))) == 0)))) else (r = true)) else (r = false)
theorem l22_FramesCalls.D {a0 : TGraph} {a1 : TState} {a2 : TMove} {r : Bool} (h : l22_FramesCalls.f a0 a1 a2 r) : D Tryd.prog X (.callH 6 [.agg (TGraph.lit a0), .agg (TState.lit a1), .agg (TMove.lit a2)] [] (.val (.bool r)) []) := by
  unfold l22_FramesCalls.f at h
  refine .enter 76 0 fn6 rfl rfl rfl ?_
  refine .seq <| .room 0 <| .room 0 <| .room 0 <| .reg0 rfl (.op 0 rfl (bxP (s := 10) (cs := (TGraph.lit a0)) rfl ⟨rfl, by decide, rfl⟩ rfl) <| .op 1 rfl (bxP (s := 4) (cs := (TState.lit a1)) rfl ⟨rfl, by decide, rfl⟩ rfl) <| .op 2 rfl (bxP (s := 2) (cs := (TMove.lit a2)) rfl ⟨rfl, by decide, rfl⟩ rfl) <| .op 0 rfl (asV rfl) <| .nil0) ?_
  refine .seq <| .seq ?_
  obtain ⟨t2_0, g2_0, h⟩ := h
  refine .reg0 rfl (.callI rfl (callee_of rfl go7 rfl) (.pure rfl rfl (l22_awake.D g2_0)) <| .op 0 rfl (notB rfl) <| .nil0) ?_
  by_cases c1 : t2_0 = true
  · rw [if_pos c1] at h
    refine .condF rfl (bnotF c1) ?_
    refine .skip <| .seq <| .seq ?_
    obtain ⟨t3_2, g3_2, h⟩ := h
    refine .reg0 rfl (.op 0 rfl (ldG rfl sz29 ag29 rfl) <| .op 0 rfl (ldG rfl sz33 ag33 rfl) <| .callI rfl (callee_of rfl go8 rfl) (.pure rfl rfl (l22_small.D g3_2)) <| .op 0 rfl (notB rfl) <| .nil0) ?_
    by_cases c2 : t3_2 = true
    · rw [if_pos c2] at h
      refine .condF rfl (bnotF c2) ?_
      refine .skip <| .seq ?_
      obtain ⟨t4_3, g4_3, h⟩ := h
      refine .room 0 <| .reg0 rfl (.op 0 rfl (ldG rfl sz29 ag29 rfl) <| .op 0 rfl (ldG rfl sz33 ag33 rfl) <| .op 0 rfl (ldG rfl sz44 ag44 rfl) <| .callI rfl (callee_of rfl go14 rfl) (.pure rfl rfl (frames_Do.D g4_3)) <| .op 0 rfl (mvT rfl) <| .op 0 rfl (exT rfl rfl) <| .op 0 rfl (exT rfl rfl) <| .op 3 rfl (alP (s := 4) ze33 ⟨rfl, by decide, rfl⟩ rfl) <| .op 0 rfl (stB (cs0 := [.val (.int .i64 0), .val (.slice none 0 0), .val (.int .u64 0), .val (.slice none 0 0)]) (cs := (TState.lit t4_3.1)) (cs1 := (TState.lit t4_3.1)) rfl rfl sz33 rfl ⟨Nat.le_of_ble_eq_true rfl, rfl⟩ rfl) <| .op 0 rfl (asV rfl) <| .nil0) ?_
      refine .seq <| .seq <| .reg0 rfl (.op 0 rfl (mvV rfl) <| .op 0 rfl (neI rfl rfl) <| .nil0) ?_
      by_cases c3 : t4_3.2 = 0
      · rw [if_pos c3] at h
        refine .condF rfl (bne_eq_false_iff_eq.mpr c3) ?_
        refine .skip <| .seq <| .seq ?_
        obtain ⟨t6_2, g6_2, h⟩ := h
        refine .reg0 rfl (.op 0 rfl (ldG rfl sz29 ag29 rfl) <| .op 0 rfl (ldG rfl sz33 ag33 rfl) <| .callI rfl (callee_of rfl go16 rfl) (.pure rfl rfl (r22_Check.D g6_2)) <| .op 0 rfl (neI rfl rfl) <| .nil0) ?_
        by_cases c4 : t6_2 = 0
        · rw [if_pos c4] at h
          refine .condF rfl (bne_eq_false_iff_eq.mpr c4) ?_
          refine .skip <| .seq <| .seq <| .reg0 rfl (.op 0 rfl (faP fa33_3 rfl) <| .op 0 rfl (ldP rfl sz23 ag23 rfl) <| .op 0 rfl (lnR (l := t4_3.1.Stack) sl23 rfl) <| .op 0 rfl (faP fa33_3 rfl) <| .op 0 rfl (ldP rfl sz23 ag23 rfl) <| .op 0 rfl (lnR (l := a1.Stack) sl23 rfl) <| .op 0 rfl (subI rfl rfl) <| .nil0) ?_
          refine .block <| .seq <| .reg0 rfl (.op 0 rfl (eqI rfl rfl) <| .op 0 rfl (asV rfl) <| .nil0) ?_
          by_cases c5 : (IntKind.i64.wrap ((t4_3.1.Stack.length : Int) - (a1.Stack.length : Int))) = 0
          · rw [if_pos c5] at h
            refine .condT rfl (beq_iff_eq.mpr c5) ?_
            refine .seq ?_
            obtain ⟨t9_4, g9_4, h⟩ := h
            refine .reg0 rfl (.op 0 rfl (faP fa33_3 rfl) <| .op 0 rfl (ldP rfl sz23 ag23 rfl) <| .op 0 rfl (faP fa33_3 rfl) <| .op 0 rfl (ldP rfl sz23 ag23 rfl) <| .callI rfl (callee_of rfl go12 rfl) (.pure rfl rfl (l22_numbers.D g9_4)) <| .op 0 rfl (asV rfl) <| .nil0) ?_
            replace h := h.symm
            subst h
            refine .keepL [] [(6, .val (.bool t9_4))] [] (by decide) (by decide) ⟨.free rfl rfl, trivial⟩ trivial ?_
            exact .ret rfl
          · rw [if_neg c5] at h
            refine .condF rfl (beq_eq_false_iff_ne.mpr c5) ?_
            refine .seq <| .reg0 rfl (.op 0 rfl (eqI rfl rfl) <| .op 0 rfl (asV rfl) <| .nil0) ?_
            by_cases c6 : (IntKind.i64.wrap ((t4_3.1.Stack.length : Int) - (a1.Stack.length : Int))) = 1
            · rw [if_pos c6] at h
              refine .condT rfl (beq_iff_eq.mpr c6) ?_
              refine .seq ?_
              obtain ⟨g11_2, h⟩ := h
              obtain ⟨t11_5, g11_5, h⟩ := h
              refine .reg1 (e1 := listEnv [(6, .val (.bool t11_5))]) (H1 := [⟨10, [(TGraph.lit a0)], 0, none⟩, ⟨4, [(TState.lit a1)], 0, none⟩, ⟨2, [(TMove.lit a2)], 0, none⟩, ⟨4, [(TState.lit t4_3.1)], 0, none⟩]) rfl ?_ ?_
              · exact .drawM [(6, 6, .val (.bool t11_5)), (5, 62, .val (.bool t11_5)), (4, 61, .rows (a1.Stack.map (cInt .i64))), (3, 60, .ptr 1 1 4 0 3), (2, 59, .rows ((cutl t4_3.1.Stack 1 (t4_3.1.Stack.length : Int)).map (cInt .i64))), (1, 58, .rows (t4_3.1.Stack.map (cInt .i64))), (0, 57, .ptr 3 1 4 0 3)] [] [[], [0], [1, 0], [], [3], [2, 1, 0, 4, 3], [5, 2, 1, 0, 4, 3]] (by rfl) (by rfl) (by rfl) (by exact ⟨fun S hS hD hn => .one 0 hS hD hn rfl rfl (faP fa33_3 rfl) rfl rfl rfl, fun S hS hD hn => .one 0 hS hD hn rfl rfl (ldP rfl sz23 ag23 rfl) rfl rfl rfl, fun S hS hD hn => .one 0 hS hD hn rfl rfl (slR (l := t4_3.1.Stack) (v := Int.toNat 1) sl23 rfl (bound_some rfl g11_2.1) bound_nl (cut_le' g11_2) (Nat.le_refl _)) rfl rfl rfl, fun S hS hD hn => .one 0 hS hD hn rfl rfl (faP fa33_3 rfl) rfl rfl rfl, fun S hS hD hn => .one 0 hS hD hn rfl rfl (ldP rfl sz23 ag23 rfl) rfl rfl rfl, fun S hS hD hn => .oneI hS hD hn rfl rfl (callee_of rfl go12 rfl) (.pure rfl rfl (l22_numbers.D g11_5)) rfl rfl rfl, fun S hS hD hn => .one 0 hS hD hn rfl rfl (asV rfl) rfl rfl rfl, trivial⟩) _ (by exact ⟨.free rfl rfl, trivial⟩) (by rfl)
              replace h := h.symm
              subst h
              refine .keepL [] [(6, .val (.bool t11_5))] [] (by decide) (by decide) ⟨.free rfl rfl, trivial⟩ trivial ?_
              exact .ret rfl
            · rw [if_neg c6] at h
              refine .condF rfl (beq_eq_false_iff_ne.mpr c6) ?_
              refine .seq <| .reg0 rfl (.op 0 rfl (eqI rfl rfl) <| .op 0 rfl (asV rfl) <| .nil0) ?_
              by_cases c7 : (IntKind.i64.wrap ((t4_3.1.Stack.length : Int) - (a1.Stack.length : Int))) = (-1)
              · rw [if_pos c7] at h
                refine .condT rfl (beq_iff_eq.mpr c7) ?_
                refine .seq ?_
                obtain ⟨g13_8, h⟩ := h
                obtain ⟨t13_9, g13_9, h⟩ := h
                refine .reg1 (e1 := listEnv [(6, .val (.bool ((a2.Step == (-1)) && t13_9)))]) (H1 := [⟨10, [(TGraph.lit a0)], 0, none⟩, ⟨4, [(TState.lit a1)], 0, none⟩, ⟨2, [(TMove.lit a2)], 0, none⟩, ⟨4, [(TState.lit t4_3.1)], 0, none⟩]) rfl ?_ ?_
                · by_cases c8 : a2.Step = (-1)
                  · exact .drawM [(11, 6, .val (.bool t13_9)), (10, 75, .val (.bool t13_9)), (9, 74, .val (.bool t13_9)), (8, 73, .rows ((cutl a1.Stack 1 (a1.Stack.length : Int)).map (cInt .i64))), (7, 72, .rows (a1.Stack.map (cInt .i64))), (6, 71, .ptr 1 1 4 0 3), (5, 70, .rows (t4_3.1.Stack.map (cInt .i64))), (4, 69, .ptr 3 1 4 0 3), (3, 68, .val (.bool (a2.Step == (-1)))), (2, 67, .val (.bool (a2.Step == (-1)))), (1, 66, .val (.int .i64 a2.Step)), (0, 65, .ptr 2 1 2 0 0)] [] [[], [0], [1, 0], [2, 1, 0], [3, 2, 1, 0], [4, 3, 2, 1, 0], [3, 2, 1, 0], [6, 3, 2, 1, 0], [7, 6, 3, 2, 1, 0], [5, 4, 3, 2, 1, 0, 8, 7, 6], [3, 2, 1, 0, 9, 5, 4, 8, 7, 6], [10, 3, 2, 1, 0, 9, 5, 4, 8, 7, 6]] (by rfl) (by rfl) (by rfl) (by exact ⟨fun S hS hD hn => .one 0 hS hD hn rfl rfl (faP fa44_0 rfl) rfl rfl rfl, fun S hS hD hn => .one 0 hS hD hn rfl rfl (ldP rfl sz3 ag3 rfl) rfl rfl rfl, fun S hS hD hn => .one 0 hS hD hn rfl rfl (eqI rfl rfl) rfl rfl rfl, fun S hS hD hn => .one 0 hS hD hn rfl rfl (mvV rfl) rfl rfl rfl, fun S hS hD hn => .one 0 hS hD hn (gT rfl rfl rfl (beq_iff_eq.mpr c8)) rfl (faP fa33_3 rfl) rfl rfl rfl, fun S hS hD hn => .one 0 hS hD hn (gT rfl rfl rfl (beq_iff_eq.mpr c8)) rfl (ldP rfl sz23 ag23 rfl) rfl rfl rfl, fun S hS hD hn => .one 0 hS hD hn (gT rfl rfl rfl (beq_iff_eq.mpr c8)) rfl (faP fa33_3 rfl) rfl rfl rfl, fun S hS hD hn => .one 0 hS hD hn (gT rfl rfl rfl (beq_iff_eq.mpr c8)) rfl (ldP rfl sz23 ag23 rfl) rfl rfl rfl, fun S hS hD hn => .one 0 hS hD hn (gT rfl rfl rfl (beq_iff_eq.mpr c8)) rfl (slR (l := a1.Stack) (v := Int.toNat 1) sl23 rfl (bound_some rfl (g13_8 c8).1) bound_nl (cut_le' (g13_8 c8)) (Nat.le_refl _)) rfl rfl rfl, fun S hS hD hn => .oneI hS hD hn (gT rfl rfl rfl (beq_iff_eq.mpr c8)) rfl (callee_of rfl go12 rfl) (.pure rfl rfl (l22_numbers.D (g13_9 c8))) rfl rfl rfl, fun S hS hD hn => .one 0 hS hD hn rfl rfl (pkTV rfl (beq_iff_eq.mpr c8) rfl) rfl rfl rfl, fun S hS hD hn => .one 0 hS hD hn rfl rfl (asV rfl) rfl rfl rfl, trivial⟩) _ (by exact ⟨cB rfl (mAndT (beq_iff_eq.mpr c8) rfl), trivial⟩) (by rfl)
                  · exact .drawM [(11, 6, .val (.bool false)), (10, 75, .val (.bool false)), (9, 74, .val undef), (8, 73, .val undef), (7, 72, .val undef), (6, 71, .val undef), (5, 70, .val undef), (4, 69, .val undef), (3, 68, .val (.bool (a2.Step == (-1)))), (2, 67, .val (.bool (a2.Step == (-1)))), (1, 66, .val (.int .i64 a2.Step)), (0, 65, .ptr 2 1 2 0 0)] [] [[], [0], [1, 0], [2, 1, 0], [3, 2, 1, 0], [4, 3, 2, 1, 0], [3, 2, 1, 0], [6, 3, 2, 1, 0], [7, 6, 3, 2, 1, 0], [5, 4, 3, 2, 1, 0, 8, 7, 6], [3, 2, 1, 0, 9, 5, 4, 8, 7, 6], [10, 3, 2, 1, 0, 9, 5, 4, 8, 7, 6]] (by rfl) (by rfl) (by rfl) (by exact ⟨fun S hS hD hn => .one 0 hS hD hn rfl rfl (faP fa44_0 rfl) rfl rfl rfl, fun S hS hD hn => .one 0 hS hD hn rfl rfl (ldP rfl sz3 ag3 rfl) rfl rfl rfl, fun S hS hD hn => .one 0 hS hD hn rfl rfl (eqI rfl rfl) rfl rfl rfl, fun S hS hD hn => .one 0 hS hD hn rfl rfl (mvV rfl) rfl rfl rfl, fun S hS hD hn => .oneNo hS hD (gF rfl rfl rfl (beq_eq_false_iff_ne.mpr c8)) rfl hn rfl rfl rfl, fun S hS hD hn => .oneNo hS hD (gF rfl rfl rfl (beq_eq_false_iff_ne.mpr c8)) rfl hn rfl rfl rfl, fun S hS hD hn => .oneNo hS hD (gF rfl rfl rfl (beq_eq_false_iff_ne.mpr c8)) rfl hn rfl rfl rfl, fun S hS hD hn => .oneNo hS hD (gF rfl rfl rfl (beq_eq_false_iff_ne.mpr c8)) rfl hn rfl rfl rfl, fun S hS hD hn => .oneNo hS hD (gF rfl rfl rfl (beq_eq_false_iff_ne.mpr c8)) rfl hn rfl rfl rfl, fun S hS hD hn => .oneNo hS hD (gF rfl rfl rfl (beq_eq_false_iff_ne.mpr c8)) rfl hn rfl rfl rfl, fun S hS hD hn => .one 0 hS hD hn rfl rfl (pkFV rfl (beq_eq_false_iff_ne.mpr c8) rfl) rfl rfl rfl, fun S hS hD hn => .one 0 hS hD hn rfl rfl (asV rfl) rfl rfl rfl, trivial⟩) _ (by exact ⟨cB rfl (mAndF (beq_eq_false_iff_ne.mpr c8)), trivial⟩) (by rfl)
                replace h := h.symm
                subst h
                refine .keepL [] [(6, .val (.bool ((a2.Step == (-1)) && t13_9)))] [] (by decide) (by decide) ⟨.free rfl rfl, trivial⟩ trivial ?_
                exact .ret rfl
              · rw [if_neg c7] at h
                refine .condF rfl (beq_eq_false_iff_ne.mpr c7) ?_
                refine .skip <| .inBlock <| .seq <| .reg0 rfl (.op 0 rfl (asV rfl) <| .nil0) ?_
                replace h := h.symm
                subst h
                refine .keepL [] [(6, .val (.bool false))] [] (by decide) (by decide) ⟨.free rfl rfl, trivial⟩ trivial ?_
                exact .ret rfl
        · rw [if_neg c4] at h
          refine .condT rfl (bne_iff_ne.mpr c4) ?_
          refine .seq <| .reg0 rfl (.op 0 rfl (asV rfl) <| .nil0) ?_
          replace h := h.symm
          subst h
          refine .keepL [] [(6, .val (.bool false))] [] (by decide) (by decide) ⟨.free rfl rfl, trivial⟩ trivial ?_
          exact .ret rfl
      · rw [if_neg c3] at h
        refine .condT rfl (bne_iff_ne.mpr c3) ?_
        refine .seq ?_
        refine .reg0 (e1 := listEnv [(6, .val (.bool ((t4_3.1.Node == 0) && ((IntKind.i64.wrap ((t4_3.1.Stack.length : Int) + (t4_3.1.Env.length : Int))) == 0))))]) (H1 := [⟨10, [(TGraph.lit a0)], 0, none⟩, ⟨4, [(TState.lit a1)], 0, none⟩, ⟨2, [(TMove.lit a2)], 0, none⟩, ⟨4, [(TState.lit t4_3.1)], 0, none⟩]) rfl ?_ ?_
        · by_cases c9 : t4_3.1.Node = 0
          · exact (.op 0 rfl (faP fa33_0 rfl) <| .op 0 rfl (ldP rfl sz3 ag3 rfl) <| .op 0 rfl (eqI rfl rfl) <| .op 0 rfl (mvV rfl) <| .op 0 (gT rfl rfl rfl (beq_iff_eq.mpr c9)) (faP fa33_3 rfl) <| .op 0 (gT rfl rfl rfl (beq_iff_eq.mpr c9)) (ldP rfl sz23 ag23 rfl) <| .op 0 (gT rfl rfl rfl (beq_iff_eq.mpr c9)) (lnR (l := t4_3.1.Stack) sl23 rfl) <| .op 0 (gT rfl rfl rfl (beq_iff_eq.mpr c9)) (faP fa33_1 rfl) <| .op 0 (gT rfl rfl rfl (beq_iff_eq.mpr c9)) (ldP rfl sz30 ag30 rfl) <| .op 0 (gT rfl rfl rfl (beq_iff_eq.mpr c9)) (lnR (l := t4_3.1.Env) sl30 rfl) <| .op 0 (gT rfl rfl rfl (beq_iff_eq.mpr c9)) (addI rfl rfl) <| .op 0 (gT rfl rfl rfl (beq_iff_eq.mpr c9)) (eqI rfl rfl) <| .op 0 rfl (pkTV rfl (beq_iff_eq.mpr c9) rfl) <| .op 0 rfl (asV rfl) <| .nilL _ ⟨cB rfl (mAndT (beq_iff_eq.mpr c9) rfl), trivial⟩)
          · exact (.op 0 rfl (faP fa33_0 rfl) <| .op 0 rfl (ldP rfl sz3 ag3 rfl) <| .op 0 rfl (eqI rfl rfl) <| .op 0 rfl (mvV rfl) <| .no (gF rfl rfl rfl (beq_eq_false_iff_ne.mpr c9)) <| .no (gF rfl rfl rfl (beq_eq_false_iff_ne.mpr c9)) <| .no (gF rfl rfl rfl (beq_eq_false_iff_ne.mpr c9)) <| .no (gF rfl rfl rfl (beq_eq_false_iff_ne.mpr c9)) <| .no (gF rfl rfl rfl (beq_eq_false_iff_ne.mpr c9)) <| .no (gF rfl rfl rfl (beq_eq_false_iff_ne.mpr c9)) <| .no (gF rfl rfl rfl (beq_eq_false_iff_ne.mpr c9)) <| .no (gF rfl rfl rfl (beq_eq_false_iff_ne.mpr c9)) <| .op 0 rfl (pkFV rfl (beq_eq_false_iff_ne.mpr c9) rfl) <| .op 0 rfl (asV rfl) <| .nilL _ ⟨cB rfl (mAndF (beq_eq_false_iff_ne.mpr c9)), trivial⟩)
        replace h := h.symm
        subst h
        refine .keepL [] [(6, .val (.bool ((t4_3.1.Node == 0) && ((IntKind.i64.wrap ((t4_3.1.Stack.length : Int) + (t4_3.1.Env.length : Int))) == 0))))] [] (by decide) (by decide) ⟨.free rfl rfl, trivial⟩ trivial ?_
        exact .ret rfl
    · rw [if_neg c2] at h
      refine .condT rfl (bnotT (Bool.eq_false_iff.mpr c2)) ?_
      refine .seq <| .reg0 rfl (.op 0 rfl (asV rfl) <| .nil0) ?_
      replace h := h.symm
      subst h
      refine .keepL [] [(6, .val (.bool true))] [] (by decide) (by decide) ⟨.free rfl rfl, trivial⟩ trivial ?_
      exact .ret rfl
  · rw [if_neg c1] at h
    refine .condT rfl (bnotT (Bool.eq_false_iff.mpr c1)) ?_
    refine .seq <| .reg0 rfl (.op 0 rfl (asV rfl) <| .nil0) ?_
    replace h := h.symm
    subst h
    refine .keepL [] [(6, .val (.bool false))] [] (by decide) (by decide) ⟨.free rfl rfl, trivial⟩ trivial ?_
    exact .ret rfl
end Go.RM.Tryd
