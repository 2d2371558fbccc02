/- GJ, for the statement FramesExplores: what it needs, no more. -/
import Derived.Test.YtcogffeinodfaaaGreatDoorZFramesExploresGI
set_option linter.unusedVariables false
set_option maxRecDepth 8000
set_option maxHeartbeats 4000000
namespace Go.RM.Tryz
open Go.RM Go.Proofs
def l22_FramesExplores.j2 (a0 : TGraph) (a1 : TState) (a2 : List Int) (x1 : Int) : Int → Bool → Prop := fun x2 r => ∃ t8_5 : (List TState) × Int, (frames_Explore.f a0 a1 a2 x1 x2 t8_5) ∧ ∃ t9_5 : (List TState) × Int, (r22_Explore.f a0 a1 a2 x1 x2 t9_5) ∧ ∃ t10_2 : Bool, (r22_Sames.f t8_5.1 t9_5.1 t10_2) ∧ r = (t10_2 && (t8_5.2 == t9_5.2))
def l22_FramesExplores.j1 (a0 : TGraph) (a1 : TState) (a2 : List Int) (a4 : Int) : Int → Bool → Prop := fun x1 r => if ((decide (a4 > 200)) && (decide (a4 ≤ 20000))) = true then (l22_FramesExplores.j2 a0 a1 a2 x1 200 r) else (l22_FramesExplores.j2 a0 a1 a2 x1 a4 r)
def l22_FramesExplores.f (a0 : TGraph) (a1 : TState) (a2 : List Int) (a3 : Int) (a4 : Int) (r : Bool) : Prop :=
  ∃ t2_0 : Bool, (l22_awake.f t2_0) ∧ if t2_0 = true then (∃ t3_2 : Bool, (l22_small.f a0 a1 t3_2) ∧ if t3_2 = true then (if ((decide (a3 > 12)) && (decide (a3 ≤ 100))) = true then (l22_FramesExplores.j1 a0 a1 a2 a4 12 r) else (l22_FramesExplores.j1 a0 a1 a2 a4 a3 r)) else (r = true)) else (r = false)
theorem l22_FramesExplores.D {a0 a1 a2 a3 a4 r} (h : l22_FramesExplores.f a0 a1 a2 a3 a4 r) : D Tryz.prog X (.callH 4 [.agg (TGraph.lit a0), .agg (TState.lit a1), .rows (a2.map (cInt .i64)), .val (.int .i64 a3), .val (.int .i64 a4)] [] (.val (.bool r)) []) := by
  unfold l22_FramesExplores.f at h
  refine .enter 59 0 fn4 q q q<|.seq<|.room 0<|.room 0<|.reg0 q (.o (bxP (s := 10) (cs := (TGraph.lit a0)) q ⟨q, by decide, q⟩ q)<|.op 1 q (bxP (s := 4) (cs := (TState.lit a1)) q ⟨q, by decide, q⟩ q)<|.o (asV q)<|.nil0)<|.seq<|.seq ?_
  obtain ⟨t2_0, g2_0, h⟩ := h
  refine .reg0 q (.c q go6 q q q (l22_awake.D g2_0)<|.o (notB q)<|.nil0) ?_
  by_cases c1 : t2_0 = true
  · rw [if_pos c1] at h
    refine .condF q (bnotF c1)<|.skip<|.seq<|.seq ?_
    obtain ⟨t3_2, g3_2, h⟩ := h
    refine .reg0 q (.o (ldG q sz29 ag29 q)<|.o (ldG q sz33 ag33 q)<|.c q go7 q q q (l22_small.D g3_2)<|.o (notB q)<|.nil0) ?_
    by_cases c2 : t3_2 = true
    · rw [if_pos c2] at h
      refine .condF q (bnotF c2)<|.skip<|.seq<|.seq ?_
      refine .reg0 (e1 := listEnv [(2, .rows (a2.map (cInt .i64))), (3, i6 a3), (4, i6 a4), (5, .ptr 0 1 10 0 0), (6, .ptr 1 1 4 0 0), (26, bo ((decide (a3 > 12)) && (decide (a3 ≤ 100))))]) (H1 := [⟨10, [(TGraph.lit a0)], 0, none⟩, ⟨4, [(TState.lit a1)], 0, none⟩]) q ?_ ?_
      · refine .m q<|.o (gtI q q)<|.m q<|?_
        by_cases c3 : a3 > 12
        · exact (.g q (dt c3) (mvV q)<|.g q (dt c3) (leI q q)<|.o (pkTV q (dt c3) q)<|.nilL _ ⟨.free q q, .free q q, .free q q, .ptr q, .ptr q, cB q (mAndT (dt c3) q), trivial⟩)
        · exact (.n q (df c3)<|.n q (df c3)<|.o (pkFV q (df c3) q)<|.nilL _ ⟨.free q q, .free q q, .free q q, .ptr q, .ptr q, cB q (mAndF (df c3)), trivial⟩)
      refine .consJ (fun s_ => l22_FramesExplores.j1 a0 a1 a2 a4 s_ r) (fun x1 => listEnv [(2, .rows (a2.map (cInt .i64))), (3, i6 x1), (4, i6 a4), (5, .ptr 0 1 10 0 0), (6, .ptr 1 1 4 0 0)]) (fun x1 => [⟨10, [(TGraph.lit a0)], 0, none⟩, ⟨4, [(TState.lit a1)], 0, none⟩]) ?_ fun hJ1 => ?_
      · rintro x1 h
        unfold l22_FramesExplores.j1 at h
        try dsimp only at h
        refine .seq<|.seq ?_
        refine .reg0 (e1 := listEnv [(2, .rows (a2.map (cInt .i64))), (3, i6 x1), (4, i6 a4), (5, .ptr 0 1 10 0 0), (6, .ptr 1 1 4 0 0), (32, bo ((decide (a4 > 200)) && (decide (a4 ≤ 20000))))]) (H1 := [⟨10, [(TGraph.lit a0)], 0, none⟩, ⟨4, [(TState.lit a1)], 0, none⟩]) q ?_ ?_
        · refine .m q<|.o (gtI q q)<|.m q<|?_
          by_cases c5 : a4 > 200
          · exact (.g q (dt c5) (mvV q)<|.g q (dt c5) (leI q q)<|.o (pkTV q (dt c5) q)<|.nilL _ ⟨.free q q, .free q q, .free q q, .ptr q, .ptr q, cB q (mAndT (dt c5) q), trivial⟩)
          · exact (.n q (df c5)<|.n q (df c5)<|.o (pkFV q (df c5) q)<|.nilL _ ⟨.free q q, .free q q, .free q q, .ptr q, .ptr q, cB q (mAndF (df c5)), trivial⟩)
        refine .consJ (fun s_ => l22_FramesExplores.j2 a0 a1 a2 x1 s_ r) (fun x2 => listEnv [(2, .rows (a2.map (cInt .i64))), (3, i6 x1), (4, i6 x2), (5, .ptr 0 1 10 0 0), (6, .ptr 1 1 4 0 0)]) (fun x2 => [⟨10, [(TGraph.lit a0)], 0, none⟩, ⟨4, [(TState.lit a1)], 0, none⟩]) ?_ fun hJ2 => ?_
        · rintro x2 h
          unfold l22_FramesExplores.j2 at h
          try dsimp only at h
          refine .seq ?_
          obtain ⟨t8_5, g8_5, h⟩ := h
          refine .reg0 q (.o (ldG q sz29 ag29 q)<|.o (ldG q sz33 ag33 q)<|.o (mvR q)<|.m q<|.m q<|.c q go19 q q q (frames_Explore.D g8_5)<|.o (mvT q)<|.o (exT q q)<|.o (exT q q)<|.o (asR q)<|.a q<|.nil0)<|.seq ?_
          obtain ⟨t9_5, g9_5, h⟩ := h
          refine .reg0 q (.o (ldG q sz29 ag29 q)<|.o (ldG q sz33 ag33 q)<|.o (mvR q)<|.m q<|.m q<|.c q go20 q q q (r22_Explore.D g9_5)<|.o (mvT q)<|.o (exT q q)<|.o (exT q q)<|.o (asR q)<|.a q<|.nil0)<|.seq ?_
          obtain ⟨t10_2, g10_2, h⟩ := h
          refine .reg0 (e1 := listEnv [(10, bo (t10_2 && (t8_5.2 == t9_5.2)))]) (H1 := [⟨10, [(TGraph.lit a0)], 0, none⟩, ⟨4, [(TState.lit a1)], 0, none⟩]) q ?_ ?_
          · refine .o (mvR q)<|.o (mvR q)<|.c q go21 q q q (r22_Sames.D g10_2)<|.m q<|?_
            by_cases c7 : t10_2 = true
            · exact (.g q c7 (mvV q)<|.g q c7 (mvV q)<|.g q c7 (eqI q q)<|.o (pkTV q c7 q)<|.a q<|.nilL _ ⟨cB q (mAndT c7 q), trivial⟩)
            · exact (.n q (nb c7)<|.n q (nb c7)<|.n q (nb c7)<|.o (pkFV q (nb c7) q)<|.a q<|.nilL _ ⟨cB q (mAndF (nb c7)), trivial⟩)
          replace h := h.symm
          subst h
          refine .kf [(10, bo (t10_2 && (t8_5.2 == t9_5.2)))] q q ?_
          exact .ret q
        · by_cases c8 : ((decide (a4 > 200)) && (decide (a4 ≤ 20000))) = true
          · rw [if_pos c8] at h
            refine .condT q c8<|.reg0 q (.a q<|.nil0)<|.keepL [0, 1] [(2, .rows (a2.map (cInt .i64))), (3, i6 x1), (4, i6 200), (5, .ptr 0 1 10 0 0), (6, .ptr 1 1 4 0 0)] [⟨10, [(TGraph.lit a0)], 0, none⟩, ⟨4, [(TState.lit a1)], 0, none⟩] (by decide) (by decide) ⟨.free q q, .free q q, .free q q, .ptr q, .ptr q, trivial⟩ ⟨⟨_, q, bcBox (all2_free q)⟩, ⟨_, q, bcBox (all2_free q)⟩, trivial⟩ ?_
            exact hJ2 _ h
          · rw [if_neg c8] at h
            refine .condF q (nb c8)<|.skip<|.keepL [0, 1] [(2, .rows (a2.map (cInt .i64))), (3, i6 x1), (4, i6 a4), (5, .ptr 0 1 10 0 0), (6, .ptr 1 1 4 0 0)] [⟨10, [(TGraph.lit a0)], 0, none⟩, ⟨4, [(TState.lit a1)], 0, none⟩] (by decide) (by decide) ⟨.free q q, .free q q, .free q q, .ptr q, .ptr q, trivial⟩ ⟨⟨_, q, bcBox (all2_free q)⟩, ⟨_, q, bcBox (all2_free q)⟩, trivial⟩ ?_
            exact hJ2 _ h
      · by_cases c9 : ((decide (a3 > 12)) && (decide (a3 ≤ 100))) = true
        · rw [if_pos c9] at h
          refine .condT q c9<|.reg0 q (.a q<|.nil0)<|.keepL [0, 1] [(2, .rows (a2.map (cInt .i64))), (3, i6 12), (4, i6 a4), (5, .ptr 0 1 10 0 0), (6, .ptr 1 1 4 0 0)] [⟨10, [(TGraph.lit a0)], 0, none⟩, ⟨4, [(TState.lit a1)], 0, none⟩] (by decide) (by decide) ⟨.free q q, .free q q, .free q q, .ptr q, .ptr q, trivial⟩ ⟨⟨_, q, bcBox (all2_free q)⟩, ⟨_, q, bcBox (all2_free q)⟩, trivial⟩ ?_
          exact hJ1 _ h
        · rw [if_neg c9] at h
          refine .condF q (nb c9)<|.skip<|.keepL [0, 1] [(2, .rows (a2.map (cInt .i64))), (3, i6 a3), (4, i6 a4), (5, .ptr 0 1 10 0 0), (6, .ptr 1 1 4 0 0)] [⟨10, [(TGraph.lit a0)], 0, none⟩, ⟨4, [(TState.lit a1)], 0, none⟩] (by decide) (by decide) ⟨.free q q, .free q q, .free q q, .ptr q, .ptr q, trivial⟩ ⟨⟨_, q, bcBox (all2_free q)⟩, ⟨_, q, bcBox (all2_free q)⟩, trivial⟩ ?_
          exact hJ1 _ h
    · rw [if_neg c2] at h
      refine .condT q (bnotT (nb c2))<|.seq<|.reg0 q (.o (asV q)<|.nil0) ?_
      replace h := h.symm
      subst h
      refine .kf [(10, bo true)] q q ?_
      exact .ret q
  · rw [if_neg c1] at h
    refine .condT q (bnotT (nb c1))<|.seq<|.reg0 q (.o (asV q)<|.nil0) ?_
    replace h := h.symm
    subst h
    refine .kf [(10, bo false)] q q ?_
    exact .ret q
end Go.RM.Tryz
