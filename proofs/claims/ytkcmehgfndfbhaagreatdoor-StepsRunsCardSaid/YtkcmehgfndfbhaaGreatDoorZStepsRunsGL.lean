/- GL, for the statement StepsRuns: what it needs, no more. -/
import Derived.Test.YtkcmehgfndfbhaaGreatDoorZStepsRunsGK
set_option linter.unusedVariables false
set_option maxRecDepth 8000
set_option maxHeartbeats 4000000
namespace Go.RM.Tryz
open Go.RM Go.Proofs
def l12_StepsRuns.j1 (a0 : TPds) (a1 : TConf) : (List Int) → Bool → Prop := fun x1 r => ∃ t4_3 : TConf × TWeight × Int × Int, (steps_Run.f a0 a1 x1 t4_3) ∧ ∃ t5_3 : TConf × TWeight × Int × Int, (r12_Run.f a0 a1 x1 t5_3) ∧ ∃ t6_2 : Bool, (r12_Same.f t4_3.1 t5_3.1 t6_2) ∧ ∃ t6_6 : Bool, ((t6_2 = true) → r05_Same.f t4_3.2.1 t5_3.2.1 t6_6) ∧ ∃ t6_19 : Bool, ((t6_2 = true) → (t6_6 = true) → (t4_3.2.2.1 = t5_3.2.2.1) → (t4_3.2.2.2 = t5_3.2.2.2) → l12_awake.f t6_19) ∧ r = (t6_2 && (t6_6 && ((t4_3.2.2.1 == t5_3.2.2.1) && ((t4_3.2.2.2 == t5_3.2.2.2) && t6_19))))
def l12_StepsRuns.f (a0 : TPds) (a1 : TConf) (a2 : List Int) (r : Bool) : Prop :=
  if (a2.length : Int) > 300 then (((Cut 0 300 a2.length)) ∧ l12_StepsRuns.j1 a0 a1 (cutl a2 0 300) r) else (l12_StepsRuns.j1 a0 a1 a2 r)
abbrev GL_c0 : List PV := [bo false, i6 0, u6 0, nul, nul, nul]
theorem l12_StepsRuns.D {a0 a1 a2 r} (h : l12_StepsRuns.f a0 a1 a2 r) : D Tryz.prog X (.callH 3 [.agg (TPds.lit a0), .agg (TConf.lit a1), .rows (a2.map (cInt .i64))] [] (.val (.bool r)) []) := by
  unfold l12_StepsRuns.f at h
  refine .enter 59 0 fn3 rfl rfl rfl <| .seq <| .room 0 <| .room 0 <| .reg0 rfl (.op 0 rfl (bxP (s := 6) (cs := (TPds.lit a0)) rfl ⟨rfl, by decide, rfl⟩ rfl) <| .op 1 rfl (bxP (s := 2) (cs := (TConf.lit a1)) rfl ⟨rfl, by decide, rfl⟩ rfl) <| .op 0 rfl (asV rfl) <| .nil0) <| .seq <| .seq <| .reg0 rfl (.op 0 rfl (mvR rfl) <| .op 0 rfl (lnR (l := a2) sl29 rfl) <| .op 0 rfl (gtI rfl rfl) <| .nil0) ?_
  refine .consJ (fun s_ => l12_StepsRuns.j1 a0 a1 s_ r) (fun x1 => listEnv [(2, .rows (x1.map (cInt .i64))), (3, .ptr 0 1 6 0 0), (4, .ptr 1 1 2 0 0)]) (fun x1 => [⟨6, [(TPds.lit a0)], 0, none⟩, ⟨2, [(TConf.lit a1)], 0, none⟩]) ?_ fun hJ1 => ?_
  · rintro x1 h
    unfold l12_StepsRuns.j1 at h
    try dsimp only at h
    refine .seq ?_
    obtain ⟨t4_3, g4_3, h⟩ := h
    refine .room 0 <| .room 0 <| .reg0 rfl (.op 0 rfl (ldG rfl sz28 ag28 rfl) <| .op 0 rfl (ldG rfl sz31 ag31 rfl) <| .op 0 rfl (mvR rfl) <| .callI rfl (callee_of rfl go8 rfl) (.pure rfl rfl (steps_Run.D g4_3)) <| .op 0 rfl (mvT rfl) <| .op 0 rfl (exT rfl rfl) <| .op 0 rfl (exT rfl rfl) <| .op 0 rfl (exT rfl rfl) <| .op 0 rfl (exT rfl rfl) <| .op 2 rfl (alP (s := 2) ze31 ⟨rfl, by decide, rfl⟩ rfl) <| .op 3 rfl (alP (s := 6) ze39 ⟨rfl, by decide, rfl⟩ rfl) <| .op 0 rfl (stB (cs0 := [i6 0, nul]) (cs := (TConf.lit t4_3.1)) (cs1 := (TConf.lit t4_3.1)) rfl rfl sz31 rfl ⟨Nat.le_of_ble_eq_true rfl, rfl⟩ rfl) <| .op 0 rfl (stB (cs0 := GL_c0) (cs := (TWeight.lit t4_3.2.1)) (cs1 := (TWeight.lit t4_3.2.1)) rfl rfl sz39 rfl ⟨Nat.le_of_ble_eq_true rfl, rfl⟩ rfl) <| .op 0 rfl (asV rfl) <| .op 0 rfl (asV rfl) <| .nil0) ?_
    refine .seq ?_
    obtain ⟨t5_3, g5_3, h⟩ := h
    refine .room 0 <| .room 0 <| .reg0 (e1 := listEnv [(7, .ptr 2 1 2 0 0), (8, .ptr 3 1 6 0 0), (9, i6 t4_3.2.2.1), (10, i6 t4_3.2.2.2), (11, .ptr 4 1 2 0 0), (12, .ptr 5 1 6 0 0), (13, i6 t5_3.2.2.1), (14, i6 t5_3.2.2.2)]) (H1 := [⟨6, [(TPds.lit a0)], 0, none⟩, ⟨2, [(TConf.lit a1)], 0, none⟩, ⟨2, [(TConf.lit t4_3.1)], 0, none⟩, ⟨6, [(TWeight.lit t4_3.2.1)], 0, none⟩, ⟨2, [(TConf.lit t5_3.1)], 0, none⟩, ⟨6, [(TWeight.lit t5_3.2.1)], 0, none⟩]) rfl (.op 0 rfl (ldG rfl sz28 ag28 rfl) <| .op 0 rfl (ldG rfl sz31 ag31 rfl) <| .op 0 rfl (mvR rfl) <| .callI rfl (callee_of rfl go9 rfl) (.pure rfl rfl (r12_Run.D g5_3)) <| .op 0 rfl (mvT rfl) <| .op 0 rfl (exT rfl rfl) <| .op 0 rfl (exT rfl rfl) <| .op 0 rfl (exT rfl rfl) <| .op 0 rfl (exT rfl rfl) <| .op 4 rfl (alP (s := 2) ze31 ⟨rfl, by decide, rfl⟩ rfl) <| .op 5 rfl (alP (s := 6) ze39 ⟨rfl, by decide, rfl⟩ rfl) <| .op 0 rfl (stB (cs0 := [i6 0, nul]) (cs := (TConf.lit t5_3.1)) (cs1 := (TConf.lit t5_3.1)) rfl rfl sz31 rfl ⟨Nat.le_of_ble_eq_true rfl, rfl⟩ rfl) <| .op 0 rfl (stB (cs0 := GL_c0) (cs := (TWeight.lit t5_3.2.1)) (cs1 := (TWeight.lit t5_3.2.1)) rfl rfl sz39 rfl ⟨Nat.le_of_ble_eq_true rfl, rfl⟩ rfl) <| .op 0 rfl (asV rfl) <| .op 0 rfl (asV rfl) <| .nilL _ ⟨.ptr rfl, .ptr rfl, .free rfl rfl, .free rfl rfl, .ptr rfl, .ptr rfl, .free rfl rfl, .free rfl rfl, trivial⟩) ?_
    refine .seq ?_
    obtain ⟨t6_2, g6_2, h⟩ := h
    obtain ⟨t6_6, g6_6, h⟩ := h
    obtain ⟨t6_19, g6_19, h⟩ := h
    refine .reg0 (e1 := listEnv [(6, bo (t6_2 && (t6_6 && ((t4_3.2.2.1 == t5_3.2.2.1) && ((t4_3.2.2.2 == t5_3.2.2.2) && t6_19)))))]) (H1 := [⟨6, [(TPds.lit a0)], 0, none⟩, ⟨2, [(TConf.lit a1)], 0, none⟩, ⟨2, [(TConf.lit t4_3.1)], 0, none⟩, ⟨6, [(TWeight.lit t4_3.2.1)], 0, none⟩, ⟨2, [(TConf.lit t5_3.1)], 0, none⟩, ⟨6, [(TWeight.lit t5_3.2.1)], 0, none⟩]) rfl ?_ ?_
    · refine .o (ldG rfl sz31 ag31 rfl) <| .o (ldG rfl sz31 ag31 rfl) <| .c rfl go10 rfl rfl rfl (r12_Same.D g6_2) <| .m rfl <| ?_
      by_cases c2 : t6_2 = true
      · refine .g rfl c2 (ldG rfl sz39 ag39 rfl) <| .g rfl c2 (ldG rfl sz39 ag39 rfl) <| .callI (gT rfl rfl rfl c2) (callee_of rfl go11 rfl) (.pure rfl rfl (r05_Same.D (g6_6 c2))) <| .o (pkTV rfl c2 rfl) <| .m rfl <| ?_
        by_cases c3 : t6_6 = true
        · refine .g rfl c3 (mvV rfl) <| .g rfl c3 (mvV rfl) <| .g rfl c3 (eqI rfl rfl) <| .o (pkTV rfl c3 rfl) <| .m rfl <| ?_
          by_cases c4 : t4_3.2.2.1 = t5_3.2.2.1
          · refine .g rfl (bt c4) (mvV rfl) <| .g rfl (bt c4) (mvV rfl) <| .g rfl (bt c4) (eqI rfl rfl) <| .o (pkTV rfl (bt c4) rfl) <| .m rfl <| ?_
            by_cases c5 : t4_3.2.2.2 = t5_3.2.2.2
            · exact (.callI (gT rfl rfl rfl (bt c5)) (callee_of rfl go12 rfl) (.pure rfl rfl (l12_awake.D (g6_19 c2 c3 c4 c5))) <| .o (pkTV rfl (bt c5) rfl) <| .a rfl <| .nilL _ ⟨cB rfl (mAndT c2 (mAndT c3 (mAndT (bt c4) (mAndT (bt c5) rfl)))), trivial⟩)
            · exact (.n rfl (bn c5) <| .o (pkFV rfl (bn c5) rfl) <| .a rfl <| .nilL _ ⟨cB rfl (mAndT c2 (mAndT c3 (mAndT (bt c4) (mAndF (bn c5))))), trivial⟩)
          · exact (.n rfl (bn c4) <| .n rfl (bn c4) <| .n rfl (bn c4) <| .o (pkFV rfl (bn c4) rfl) <| .m rfl <| .n rfl rfl <| .o (pkFV rfl rfl rfl) <| .a rfl <| .nilL _ ⟨cB rfl (mAndT c2 (mAndT c3 (mAndF (bn c4)))), trivial⟩)
        · exact (.n rfl (nb c3) <| .n rfl (nb c3) <| .n rfl (nb c3) <| .o (pkFV rfl (nb c3) rfl) <| .m rfl <| .n rfl rfl <| .n rfl rfl <| .n rfl rfl <| .o (pkFV rfl rfl rfl) <| .m rfl <| .n rfl rfl <| .o (pkFV rfl rfl rfl) <| .a rfl <| .nilL _ ⟨cB rfl (mAndT c2 (mAndF (nb c3))), trivial⟩)
      · exact (.n rfl (nb c2) <| .n rfl (nb c2) <| .n rfl (nb c2) <| .o (pkFV rfl (nb c2) rfl) <| .m rfl <| .n rfl rfl <| .n rfl rfl <| .n rfl rfl <| .o (pkFV rfl rfl rfl) <| .m rfl <| .n rfl rfl <| .n rfl rfl <| .n rfl rfl <| .o (pkFV rfl rfl rfl) <| .m rfl <| .n rfl rfl <| .o (pkFV rfl rfl rfl) <| .a rfl <| .nilL _ ⟨cB rfl (mAndF (nb c2)), trivial⟩)
    replace h := h.symm
    subst h
    refine .kf [(6, bo (t6_2 && (t6_6 && ((t4_3.2.2.1 == t5_3.2.2.1) && ((t4_3.2.2.2 == t5_3.2.2.2) && t6_19)))))] rfl rfl ?_
    exact .ret rfl
  · by_cases c6 : (a2.length : Int) > 300
    · rw [if_pos c6] at h
      refine .condT rfl (dt c6) ?_
      obtain ⟨g7_1, h⟩ := h
      refine .reg0 rfl (.o (mvR rfl) <| .o (slR (l := a2) (h := Int.toNat 300) (v := 0) sl29 rfl rfl (bound_some rfl g7_1.j0) (Nat.zero_le _) (cut_le2 g7_1)) <| .o (asR rfl) <| .nil0) <| .keepL [0, 1] [(2, .rows ((cutl a2 0 300).map (cInt .i64))), (3, .ptr 0 1 6 0 0), (4, .ptr 1 1 2 0 0)] [⟨6, [(TPds.lit a0)], 0, none⟩, ⟨2, [(TConf.lit a1)], 0, none⟩] (by decide) (by decide) ⟨.free rfl rfl, .ptr rfl, .ptr rfl, trivial⟩ ⟨⟨_, rfl, bcBox (all2_free rfl)⟩, ⟨_, rfl, bcBox (all2_free rfl)⟩, trivial⟩ ?_
      exact hJ1 _ h
    · rw [if_neg c6] at h
      refine .condF rfl (df c6) <| .skip <| .keepL [0, 1] [(2, .rows (a2.map (cInt .i64))), (3, .ptr 0 1 6 0 0), (4, .ptr 1 1 2 0 0)] [⟨6, [(TPds.lit a0)], 0, none⟩, ⟨2, [(TConf.lit a1)], 0, none⟩] (by decide) (by decide) ⟨.free rfl rfl, .ptr rfl, .ptr rfl, trivial⟩ ⟨⟨_, rfl, bcBox (all2_free rfl)⟩, ⟨_, rfl, bcBox (all2_free rfl)⟩, trivial⟩ ?_
      exact hJ1 _ h
end Go.RM.Tryz
