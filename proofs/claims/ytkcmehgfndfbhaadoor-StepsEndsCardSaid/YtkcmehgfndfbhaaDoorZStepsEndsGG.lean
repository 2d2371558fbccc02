/- GG, for the statement StepsEnds: what it needs, no more. -/
import Derived.Test.YtkcmehgfndfbhaaDoorZStepsEndsGF
set_option linter.unusedVariables false
set_option maxRecDepth 8000
set_option maxHeartbeats 4000000
namespace Go.RM.Tryd
open Go.RM Go.Proofs
def l12_StepsEnds.f (a0 : TPds) (a1 : TConf) (a2 : List Int) (r : Bool) : Prop :=
  ∃ t2_0 : Bool, (l12_awake.f t2_0) ∧ if t2_0 = true then (if ((decide ((a2.length : Int) > 12)) || ((decide ((a0.Rules.length : Int) > 40)) || (decide ((a1.W.length : Int) > 100)))) = true then (r = true) else (∃ t5_3 : TConf × TWeight × Int × Int, (steps_Run.f a0 a1 a2 t5_3) ∧ ∃ t6_4 : (List TConf) × Int, (steps_Reach.f a0 a1 (a2.length : Int) 300 t6_4) ∧ if ((!(t5_3.2.2.2 == 0)) || (t6_4.2 != 0)) = true then (r = true) else (∃ t9_2 : Bool, (r12_In.f t6_4.1 t5_3.1 t9_2) ∧ ((t9_2 = true) → (InR 0 t6_4.1.length)) ∧ ∃ t9_8 : Bool, ((t9_2 = true) → r12_Same.f (rdl t6_4.1 0) a1 t9_8) ∧ r = (t9_2 && t9_8)))) else (r = false)
abbrev GG_A0 : List (List Nat) := [[], [], [0, 1], [2, 0, 1], [3, 2, 0, 1], [4, 3, 2, 0, 1], [5, 4, 3, 2, 0, 1], [3, 2, 0, 1], [6, 5, 4, 3, 2, 0, 1, 7], [3, 2, 0, 1, 8, 6, 5, 4, 7], [9, 3, 2, 0, 1, 8, 6, 5, 4, 7]]
theorem l12_StepsEnds.D {a0 a1 a2 r} (h : l12_StepsEnds.f a0 a1 a2 r) : D Tryd.prog X (.callH 3 [.agg (TPds.lit a0), .agg (TConf.lit a1), .rows (a2.map (cInt .i64))] [] (.val (.bool r)) []) := by
  unfold l12_StepsEnds.f at h
  refine .enter 63 0 fn3 rfl rfl rfl <| .seq <| .room 0 <| .room 0 <| .reg0 rfl (.op 0 rfl (bxP (s := 6) (cs := (TPds.lit a0)) rfl ⟨rfl, by decide, rfl⟩ rfl) <| .op 1 rfl (bxP (s := 2) (cs := (TConf.lit a1)) rfl ⟨rfl, by decide, rfl⟩ rfl) <| .op 0 rfl (asV rfl) <| .nil0) <| .seq <| .seq ?_
  obtain ⟨t2_0, g2_0, h⟩ := h
  refine .reg0 rfl (.c rfl go4 rfl rfl rfl (l12_awake.D g2_0) <| .o (notB rfl) <| .nil0) ?_
  by_cases c1 : t2_0 = true
  · rw [if_pos c1] at h
    refine .condF rfl (bnotF c1) <| .skip <| .seq <| .seq ?_
    refine .reg0 (e1 := listEnv [(2, .rows (a2.map (cInt .i64))), (3, .ptr 0 1 6 0 0), (4, .ptr 1 1 2 0 0), (29, bo ((decide ((a2.length : Int) > 12)) || ((decide ((a0.Rules.length : Int) > 40)) || (decide ((a1.W.length : Int) > 100)))))]) (H1 := [⟨6, [(TPds.lit a0)], 0, none⟩, ⟨2, [(TConf.lit a1)], 0, none⟩]) rfl ?_ ?_
    · refine .o (mvR rfl) <| .o (lnR (l := a2) sl29 rfl) <| .o (gtI rfl rfl) <| .m rfl <| ?_
      by_cases c2 : (a2.length : Int) > 12
      · exact (.n rfl (dt c2) <| .n rfl (dt c2) <| .n rfl (dt c2) <| .n rfl (dt c2) <| .o (pkTV rfl (dt c2) rfl) <| .m rfl <| .n rfl rfl <| .n rfl rfl <| .n rfl rfl <| .n rfl rfl <| .o (pkTV rfl rfl rfl) <| .nilL _ ⟨.free rfl rfl, .ptr rfl, .ptr rfl, cB rfl (mOrT (dt c2)), trivial⟩)
      · refine .g rfl (df c2) (faP fa28_3 rfl) <| .g rfl (df c2) (ldP rfl sz26 ag26 rfl) <| .g rfl (df c2) (lnR (l := a0.Rules) sl26 rfl) <| .g rfl (df c2) (gtI rfl rfl) <| .o (pkFV rfl (df c2) rfl) <| .m rfl <| ?_
        by_cases c3 : (a0.Rules.length : Int) > 40
        · exact (.n rfl (dt c3) <| .n rfl (dt c3) <| .n rfl (dt c3) <| .n rfl (dt c3) <| .o (pkTV rfl (dt c3) rfl) <| .nilL _ ⟨.free rfl rfl, .ptr rfl, .ptr rfl, cB rfl (mOrF (df c2) (mOrT (dt c3))), trivial⟩)
        · exact (.g rfl (df c3) (faP fa31_1 rfl) <| .g rfl (df c3) (ldP rfl sz29 ag29 rfl) <| .g rfl (df c3) (lnR (l := a1.W) sl29 rfl) <| .g rfl (df c3) (gtI rfl rfl) <| .o (pkFV rfl (df c3) rfl) <| .nilL _ ⟨.free rfl rfl, .ptr rfl, .ptr rfl, cB rfl (mOrF (df c2) (mOrF (df c3) rfl)), trivial⟩)
    by_cases c4 : ((decide ((a2.length : Int) > 12)) || ((decide ((a0.Rules.length : Int) > 40)) || (decide ((a1.W.length : Int) > 100)))) = true
    · rw [if_pos c4] at h
      refine .condT rfl c4 <| .seq <| .reg0 rfl (.op 0 rfl (asV rfl) <| .nil0) ?_
      replace h := h.symm
      subst h
      refine .kf [(6, bo true)] rfl rfl ?_
      exact .ret rfl
    · rw [if_neg c4] at h
      refine .condF rfl (nb c4) <| .skip <| .seq ?_
      obtain ⟨t5_3, g5_3, h⟩ := h
      refine .room 0 <| .room 0 <| .reg0 rfl (.op 0 rfl (ldG rfl sz28 ag28 rfl) <| .op 0 rfl (ldG rfl sz31 ag31 rfl) <| .op 0 rfl (mvR rfl) <| .callI rfl (callee_of rfl go5 rfl) (.pure rfl rfl (steps_Run.D g5_3)) <| .op 0 rfl (mvT rfl) <| .op 0 rfl (exT rfl rfl) <| .op 0 rfl (exT rfl rfl) <| .op 0 rfl (exT rfl rfl) <| .op 0 rfl (exT rfl rfl) <| .op 2 rfl (alP (s := 2) ze31 ⟨rfl, by decide, rfl⟩ rfl) <| .op 3 rfl (alP (s := 6) ze40 ⟨rfl, by decide, rfl⟩ rfl) <| .op 0 rfl (stB (cs0 := [i6 0, nul]) (cs := (TConf.lit t5_3.1)) (cs1 := (TConf.lit t5_3.1)) rfl rfl sz31 rfl ⟨Nat.le_of_ble_eq_true rfl, rfl⟩ rfl) <| .op 0 rfl (stB (cs0 := [bo false, i6 0, u6 0, nul, nul, nul]) (cs := (TWeight.lit t5_3.2.1)) (cs1 := (TWeight.lit t5_3.2.1)) rfl rfl sz40 rfl ⟨Nat.le_of_ble_eq_true rfl, rfl⟩ rfl) <| .op 0 rfl (asV rfl) <| .op 0 rfl (asV rfl) <| .nil0) ?_
      refine .seq ?_
      obtain ⟨t6_4, g6_4, h⟩ := h
      refine .reg0 (e1 := listEnv [(4, .ptr 1 1 2 0 0), (7, .ptr 2 1 2 0 0), (10, i6 t5_3.2.2.2), (11, .rows (t6_4.1.map TConf.cells)), (12, i6 t6_4.2)]) (H1 := [⟨6, [(TPds.lit a0)], 0, none⟩, ⟨2, [(TConf.lit a1)], 0, none⟩, ⟨2, [(TConf.lit t5_3.1)], 0, none⟩, ⟨6, [(TWeight.lit t5_3.2.1)], 0, none⟩]) rfl (.op 0 rfl (ldG rfl sz28 ag28 rfl) <| .op 0 rfl (ldG rfl sz31 ag31 rfl) <| .op 0 rfl (mvR rfl) <| .op 0 rfl (lnR (l := a2) sl29 rfl) <| .callI rfl (callee_of rfl go6 rfl) (.pure rfl rfl (steps_Reach.D g6_4)) <| .op 0 rfl (mvT rfl) <| .op 0 rfl (exT rfl rfl) <| .op 0 rfl (exT rfl rfl) <| .op 0 rfl (asR rfl) <| .op 0 rfl (asV rfl) <| .nilL _ ⟨.ptr rfl, .ptr rfl, .free rfl rfl, .free rfl rfl, .free rfl rfl, trivial⟩) ?_
      refine .seq <| .seq ?_
      refine .reg0 (e1 := listEnv [(4, .ptr 1 1 2 0 0), (7, .ptr 2 1 2 0 0), (11, .rows (t6_4.1.map TConf.cells)), (52, bo ((!(t5_3.2.2.2 == 0)) || (t6_4.2 != 0)))]) (H1 := [⟨6, [(TPds.lit a0)], 0, none⟩, ⟨2, [(TConf.lit a1)], 0, none⟩, ⟨2, [(TConf.lit t5_3.1)], 0, none⟩, ⟨6, [(TWeight.lit t5_3.2.1)], 0, none⟩]) rfl ?_ ?_
      · refine .m rfl <| .o (neI rfl rfl) <| .m rfl <| ?_
        by_cases c5 : t5_3.2.2.2 = 0
        · exact (.g rfl (nf c5) (mvV rfl) <| .g rfl (nf c5) (neI rfl rfl) <| .o (pkFV rfl (nf c5) rfl) <| .nilL _ ⟨.ptr rfl, .ptr rfl, .free rfl rfl, cB rfl (mOrF (bnotF (bt c5)) rfl), trivial⟩)
        · exact (.n rfl (nt c5) <| .n rfl (nt c5) <| .o (pkTV rfl (nt c5) rfl) <| .nilL _ ⟨.ptr rfl, .ptr rfl, .free rfl rfl, cB rfl (mOrT (bnotT (bn c5))), trivial⟩)
      by_cases c6 : ((!(t5_3.2.2.2 == 0)) || (t6_4.2 != 0)) = true
      · rw [if_pos c6] at h
        refine .condT rfl c6 <| .seq <| .reg0 rfl (.op 0 rfl (asV rfl) <| .nil0) ?_
        replace h := h.symm
        subst h
        refine .kf [(6, bo true)] rfl rfl ?_
        exact .ret rfl
      · rw [if_neg c6] at h
        refine .condF rfl (nb c6) <| .skip <| .seq ?_
        obtain ⟨t9_2, g9_2, h⟩ := h
        obtain ⟨g9_5, h⟩ := h
        obtain ⟨t9_8, g9_8, h⟩ := h
        refine .reg1 (e1 := listEnv [(6, bo (t9_2 && t9_8))]) (H1 := [⟨6, [(TPds.lit a0)], 0, none⟩, ⟨2, [(TConf.lit a1)], 0, none⟩, ⟨2, [(TConf.lit t5_3.1)], 0, none⟩, ⟨6, [(TWeight.lit t5_3.2.1)], 0, none⟩]) rfl ?_ ?_
        · by_cases c7 : t9_2 = true
          · exact .drawM [(10, 6, bo t9_8), (9, 62, bo t9_8), (8, 61, bo t9_8), (7, 60, .agg (TConf.lit a1)), (6, 59, .agg (TConf.lit (rdl t6_4.1 0))), (5, 58, .cptr (TConf.lit (rdl t6_4.1 0)) 0), (4, 57, .rows (t6_4.1.map TConf.cells)), (3, 56, bo t9_2), (2, 55, bo t9_2), (1, 54, .agg (TConf.lit t5_3.1)), (0, 53, .rows (t6_4.1.map TConf.cells))] [] GG_A0 (by rfl) (by rfl) (by rfl) (by exact ⟨oP (fun _ => mvR rfl) rfl, oP (fun _ => ldG rfl sz31 ag31 rfl) rfl, fun S hS hD hn => .oneI hS hD hn rfl rfl (callee_of rfl go7 rfl) (.pure rfl rfl (r12_In.D g9_2)) rfl rfl rfl, oP (fun _ => mvV rfl) rfl, oG rfl (fun _ => rfl) c7 (fun _ => mvR rfl) rfl, oG rfl (fun _ => rfl) c7 (fun _ => ixR (l := t6_4.1) (lit := TConf.lit) sl44 rfl rfl (fun _ => rfl) (g9_5 c7).1 (g9_5 c7).2) rfl, oG rfl (fun _ => rfl) c7 (fun _ => ldCG rfl sz31 ag31 rfl) rfl, oG rfl (fun _ => rfl) c7 (fun _ => ldG rfl sz31 ag31 rfl) rfl, fun S hS hD hn => .oneI hS hD hn (gT rfl rfl rfl c7) rfl (callee_of rfl go8 rfl) (.pure rfl rfl (r12_Same.D (g9_8 c7))) rfl rfl rfl, oP (fun _ => pkTV rfl c7 rfl) rfl, oP (fun _ => asV rfl) rfl, trivial⟩) _ (by exact ⟨cB rfl (mAndT c7 rfl), trivial⟩) (by rfl)
          · exact .drawM [(10, 6, bo false), (9, 62, bo false), (8, 61, und), (7, 60, und), (6, 59, und), (5, 58, und), (4, 57, und), (3, 56, bo t9_2), (2, 55, bo t9_2), (1, 54, .agg (TConf.lit t5_3.1)), (0, 53, .rows (t6_4.1.map TConf.cells))] [] GG_A0 (by rfl) (by rfl) (by rfl) (by exact ⟨oP (fun _ => mvR rfl) rfl, oP (fun _ => ldG rfl sz31 ag31 rfl) rfl, fun S hS hD hn => .oneI hS hD hn rfl rfl (callee_of rfl go7 rfl) (.pure rfl rfl (r12_In.D g9_2)) rfl rfl rfl, oP (fun _ => mvV rfl) rfl, oN rfl (fun _ => rfl) (nb c7) rfl, oN rfl (fun _ => rfl) (nb c7) rfl, oN rfl (fun _ => rfl) (nb c7) rfl, oN rfl (fun _ => rfl) (nb c7) rfl, oN rfl (fun _ => rfl) (nb c7) rfl, oP (fun _ => pkFV rfl (nb c7) rfl) rfl, oP (fun _ => asV rfl) rfl, trivial⟩) _ (by exact ⟨cB rfl (mAndF (nb c7)), trivial⟩) (by rfl)
        replace h := h.symm
        subst h
        refine .kf [(6, bo (t9_2 && t9_8))] rfl rfl ?_
        exact .ret rfl
  · rw [if_neg c1] at h
    refine .condT rfl (bnotT (nb c1)) <| .seq <| .reg0 rfl (.op 0 rfl (asV rfl) <| .nil0) ?_
    replace h := h.symm
    subst h
    refine .kf [(6, bo false)] rfl rfl ?_
    exact .ret rfl
end Go.RM.Tryd
