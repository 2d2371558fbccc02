/- GE, for the statement StepsParts: what it needs, no more. -/
import Derived.Test.YtkcmehgfndfbhaaGreatDoorZStepsPartsGD
set_option linter.unusedVariables false
set_option maxRecDepth 8000
set_option maxHeartbeats 4000000
namespace Go.RM.Tryz
open Go.RM Go.Proofs
def r05_Space.b1 (self45 : TSpace → Int → Prop) (a0 : TSpace) : (Bool × Int) → Rnd ((Bool × Int)) Bool Int → Prop := fun (x2, x3) z1 => if ((decide (x3 < (a0.Parts.length : Int))) && x2) = true then (((InR x3 a0.Parts.length)) ∧ (¬ ((rdl a0.Parts x3).Tag = 5) → (InR x3 a0.Parts.length)) ∧ ∃ t30_13 : Int, (¬ ((rdl a0.Parts x3).Tag = 5) → self45 (rdl a0.Parts x3) t30_13) ∧ z1 = .next (((!((rdl a0.Parts x3).Tag == 5)) && (t30_13 == 0)), (IntKind.i64.wrap (x3 + 1)))) else (z1 = .exit x2)
def r05_Space.j1 (self45 : TSpace → Int → Prop) (a0 : TSpace) : Bool → Int → Prop := fun x1 r => if x1 = true then (if ((decide (a0.Dim ≥ 0)) && ((decide (a0.Dim ≤ 64)) && ((a0.Parts.length : Int) == 0))) = true then (r = 0) else (r = 50)) else (if a0.Tag = 5 then (∃ o1 : Fin Bool Int, Loop (r05_Space.b1 self45 a0) (((a0.Dim == 0) && ((a0.Parts.length : Int) == 2)), 0) o1 ∧ o1.on (fun x4 => if x4 = true then (r = 0) else (r = 50)) (fun r_ => r = r_)) else (r = 50))
def r05_Space.step (self45 : TSpace → Int → Prop) (a0 : TSpace) (r : Int) : Prop :=
  if a0.Tag = 1 then (if ((a0.Dim == 0) && ((a0.Parts.length : Int) == 0)) = true then (r = 0) else (r = 50)) else (if a0.Tag = 2 then (if ((decide (a0.Dim ≥ 0)) && ((decide (a0.Dim ≤ 1048576)) && ((a0.Parts.length : Int) == 0))) = true then (r = 0) else (r = 50)) else (if a0.Tag = 3 then (r05_Space.j1 self45 a0 (a0.Tag == 3) r) else (r05_Space.j1 self45 a0 (a0.Tag == 4) r)))
theorem r05_Space.stepD {self45 : TSpace → Int → Prop} {a0 : TSpace} (hs45 : ∀ z0_ r_, self45 z0_ r_ → D Tryz.prog X (.callH 45 [.agg (TSpace.lit z0_)] [] (.val (.int .i64 r_)) [])) {r : Int} (h : r05_Space.step self45 a0 r) : D Tryz.prog X (.callH 45 [.agg (TSpace.lit a0)] [] (.val (.int .i64 r)) []) := by
  unfold r05_Space.step at h
  refine .enter 90 0 fn45 rfl rfl rfl <| .seq <| .room 0 <| .reg0 rfl (.op 0 rfl (bxP (s := 3) (cs := (TSpace.lit a0)) rfl ⟨rfl, by decide, rfl⟩ rfl) <| .op 0 rfl (asV rfl) <| .nil0) <| .seq <| .reg0 rfl (.op 0 rfl (asV rfl) <| .nil0) <| .seq <| .seq <| .reg0 rfl (.op 0 rfl (faP fa25_0 rfl) <| .op 0 rfl (ldP rfl sz22 ag22 rfl) <| .nil0) <| .block <| .seq <| .reg0 rfl (.op 0 rfl (eqI rfl rfl) <| .op 0 rfl (asV rfl) <| .nil0) ?_
  by_cases c1 : a0.Tag = 1
  · rw [if_pos c1] at h
    refine .condT rfl (bt c1) ?_
    refine .reg0 (e1 := listEnv [(3, bo ((a0.Dim == 0) && ((a0.Parts.length : Int) == 0)))]) (H1 := [⟨3, [(TSpace.lit a0)], 0, none⟩]) rfl ?_ ?_
    · refine .o (faP fa25_1 rfl) <| .o (ldP rfl sz3 ag3 rfl) <| .o (eqI rfl rfl) <| .m rfl <| ?_
      by_cases c2 : a0.Dim = 0
      · exact (.g rfl (bt c2) (faP fa25_2 rfl) <| .g rfl (bt c2) (ldP rfl sz23 ag23 rfl) <| .g rfl (bt c2) (lnR (l := a0.Parts) sl23 rfl) <| .g rfl (bt c2) (eqI rfl rfl) <| .o (pkTV rfl (bt c2) rfl) <| .a rfl <| .nilL _ ⟨cB rfl (mAndT (bt c2) rfl), trivial⟩)
      · exact (.n rfl (bn c2) <| .n rfl (bn c2) <| .n rfl (bn c2) <| .n rfl (bn c2) <| .o (pkFV rfl (bn c2) rfl) <| .a rfl <| .nilL _ ⟨cB rfl (mAndF (bn c2)), trivial⟩)
    refine .inBlock <| .seq <| .seq <| .reg0 rfl (.op 0 rfl (mvV rfl) <| .op 0 rfl (notB rfl) <| .nil0) ?_
    by_cases c3 : ((a0.Dim == 0) && ((a0.Parts.length : Int) == 0)) = true
    · rw [if_pos c3] at h
      refine .condF rfl (bnotF c3) <| .skip <| .seq <| .reg0 rfl (.op 0 rfl (asV rfl) <| .nil0) ?_
      replace h := h.symm
      subst h
      refine .kf [(2, i6 0)] rfl rfl ?_
      exact .ret rfl
    · rw [if_neg c3] at h
      refine .condT rfl (bnotT (nb c3)) <| .seq <| .reg0 rfl (.op 0 rfl (asV rfl) <| .nil0) ?_
      replace h := h.symm
      subst h
      refine .kf [(2, i6 50)] rfl rfl ?_
      exact .ret rfl
  · rw [if_neg c1] at h
    refine .condF rfl (bn c1) <| .seq <| .reg0 rfl (.op 0 rfl (eqI rfl rfl) <| .op 0 rfl (asV rfl) <| .nil0) ?_
    by_cases c4 : a0.Tag = 2
    · rw [if_pos c4] at h
      refine .condT rfl (bt c4) ?_
      refine .reg0 (e1 := listEnv [(3, bo ((decide (a0.Dim ≥ 0)) && ((decide (a0.Dim ≤ 1048576)) && ((a0.Parts.length : Int) == 0))))]) (H1 := [⟨3, [(TSpace.lit a0)], 0, none⟩]) rfl ?_ ?_
      · refine .o (faP fa25_1 rfl) <| .o (ldP rfl sz3 ag3 rfl) <| .o (geI rfl rfl) <| .m rfl <| ?_
        by_cases c5 : a0.Dim ≥ 0
        · refine .g rfl (dt c5) (faP fa25_1 rfl) <| .g rfl (dt c5) (ldP rfl sz3 ag3 rfl) <| .g rfl (dt c5) (leI rfl rfl) <| .o (pkTV rfl (dt c5) rfl) <| .m rfl <| ?_
          by_cases c6 : a0.Dim ≤ 1048576
          · exact (.g rfl (dt c6) (faP fa25_2 rfl) <| .g rfl (dt c6) (ldP rfl sz23 ag23 rfl) <| .g rfl (dt c6) (lnR (l := a0.Parts) sl23 rfl) <| .g rfl (dt c6) (eqI rfl rfl) <| .o (pkTV rfl (dt c6) rfl) <| .a rfl <| .nilL _ ⟨cB rfl (mAndT (dt c5) (mAndT (dt c6) rfl)), trivial⟩)
          · exact (.n rfl (df c6) <| .n rfl (df c6) <| .n rfl (df c6) <| .n rfl (df c6) <| .o (pkFV rfl (df c6) rfl) <| .a rfl <| .nilL _ ⟨cB rfl (mAndT (dt c5) (mAndF (df c6))), trivial⟩)
        · exact (.n rfl (df c5) <| .n rfl (df c5) <| .n rfl (df c5) <| .o (pkFV rfl (df c5) rfl) <| .m rfl <| .n rfl rfl <| .n rfl rfl <| .n rfl rfl <| .n rfl rfl <| .o (pkFV rfl rfl rfl) <| .a rfl <| .nilL _ ⟨cB rfl (mAndF (df c5)), trivial⟩)
      refine .inBlock <| .seq <| .seq <| .reg0 rfl (.op 0 rfl (mvV rfl) <| .op 0 rfl (notB rfl) <| .nil0) ?_
      by_cases c7 : ((decide (a0.Dim ≥ 0)) && ((decide (a0.Dim ≤ 1048576)) && ((a0.Parts.length : Int) == 0))) = true
      · rw [if_pos c7] at h
        refine .condF rfl (bnotF c7) <| .skip <| .seq <| .reg0 rfl (.op 0 rfl (asV rfl) <| .nil0) ?_
        replace h := h.symm
        subst h
        refine .kf [(2, i6 0)] rfl rfl ?_
        exact .ret rfl
      · rw [if_neg c7] at h
        refine .condT rfl (bnotT (nb c7)) <| .seq <| .reg0 rfl (.op 0 rfl (asV rfl) <| .nil0) ?_
        replace h := h.symm
        subst h
        refine .kf [(2, i6 50)] rfl rfl ?_
        exact .ret rfl
    · rw [if_neg c4] at h
      refine .condF rfl (bn c4) <| .seq <| .seq <| .reg0 rfl (.op 0 rfl (eqI rfl rfl) <| .op 0 rfl (asV rfl) <| .nil0) ?_
      refine .consJ (fun s_ => r05_Space.j1 self45 a0 s_ r) (fun x1 => listEnv [(1, .ptr 0 1 3 0 0), (6, i6 a0.Tag), (34, bo x1)]) (fun x1 => [⟨3, [(TSpace.lit a0)], 0, none⟩]) ?_ fun hJ1 => ?_
      · rintro x1 h
        unfold r05_Space.j1 at h
        try dsimp only at h
        by_cases c9 : x1 = true
        · rw [if_pos c9] at h
          refine .condT rfl c9 ?_
          refine .reg0 (e1 := listEnv [(3, bo ((decide (a0.Dim ≥ 0)) && ((decide (a0.Dim ≤ 64)) && ((a0.Parts.length : Int) == 0))))]) (H1 := [⟨3, [(TSpace.lit a0)], 0, none⟩]) rfl ?_ ?_
          · refine .o (faP fa25_1 rfl) <| .o (ldP rfl sz3 ag3 rfl) <| .o (geI rfl rfl) <| .m rfl <| ?_
            by_cases c10 : a0.Dim ≥ 0
            · refine .g rfl (dt c10) (faP fa25_1 rfl) <| .g rfl (dt c10) (ldP rfl sz3 ag3 rfl) <| .g rfl (dt c10) (leI rfl rfl) <| .o (pkTV rfl (dt c10) rfl) <| .m rfl <| ?_
              by_cases c11 : a0.Dim ≤ 64
              · exact (.g rfl (dt c11) (faP fa25_2 rfl) <| .g rfl (dt c11) (ldP rfl sz23 ag23 rfl) <| .g rfl (dt c11) (lnR (l := a0.Parts) sl23 rfl) <| .g rfl (dt c11) (eqI rfl rfl) <| .o (pkTV rfl (dt c11) rfl) <| .a rfl <| .nilL _ ⟨cB rfl (mAndT (dt c10) (mAndT (dt c11) rfl)), trivial⟩)
              · exact (.n rfl (df c11) <| .n rfl (df c11) <| .n rfl (df c11) <| .n rfl (df c11) <| .o (pkFV rfl (df c11) rfl) <| .a rfl <| .nilL _ ⟨cB rfl (mAndT (dt c10) (mAndF (df c11))), trivial⟩)
            · exact (.n rfl (df c10) <| .n rfl (df c10) <| .n rfl (df c10) <| .o (pkFV rfl (df c10) rfl) <| .m rfl <| .n rfl rfl <| .n rfl rfl <| .n rfl rfl <| .n rfl rfl <| .o (pkFV rfl rfl rfl) <| .a rfl <| .nilL _ ⟨cB rfl (mAndF (df c10)), trivial⟩)
          refine .inBlock <| .seq <| .seq <| .reg0 rfl (.op 0 rfl (mvV rfl) <| .op 0 rfl (notB rfl) <| .nil0) ?_
          by_cases c12 : ((decide (a0.Dim ≥ 0)) && ((decide (a0.Dim ≤ 64)) && ((a0.Parts.length : Int) == 0))) = true
          · rw [if_pos c12] at h
            refine .condF rfl (bnotF c12) <| .skip <| .seq <| .reg0 rfl (.op 0 rfl (asV rfl) <| .nil0) ?_
            replace h := h.symm
            subst h
            refine .kf [(2, i6 0)] rfl rfl ?_
            exact .ret rfl
          · rw [if_neg c12] at h
            refine .condT rfl (bnotT (nb c12)) <| .seq <| .reg0 rfl (.op 0 rfl (asV rfl) <| .nil0) ?_
            replace h := h.symm
            subst h
            refine .kf [(2, i6 50)] rfl rfl ?_
            exact .ret rfl
        · rw [if_neg c9] at h
          refine .condF rfl (nb c9) <| .seq <| .reg0 rfl (.op 0 rfl (eqI rfl rfl) <| .op 0 rfl (asV rfl) <| .nil0) ?_
          by_cases c13 : a0.Tag = 5
          · rw [if_pos c13] at h
            refine .condT rfl (bt c13) <| .seq ?_
            refine .reg0 (e1 := listEnv [(1, .ptr 0 1 3 0 0), (3, bo ((a0.Dim == 0) && ((a0.Parts.length : Int) == 2)))]) (H1 := [⟨3, [(TSpace.lit a0)], 0, none⟩]) rfl ?_ ?_
            · refine .o (faP fa25_1 rfl) <| .o (ldP rfl sz3 ag3 rfl) <| .o (eqI rfl rfl) <| .m rfl <| ?_
              by_cases c14 : a0.Dim = 0
              · exact (.g rfl (bt c14) (faP fa25_2 rfl) <| .g rfl (bt c14) (ldP rfl sz23 ag23 rfl) <| .g rfl (bt c14) (lnR (l := a0.Parts) sl23 rfl) <| .g rfl (bt c14) (eqI rfl rfl) <| .o (pkTV rfl (bt c14) rfl) <| .a rfl <| .nilL _ ⟨.ptr rfl, cB rfl (mAndT (bt c14) rfl), trivial⟩)
              · exact (.n rfl (bn c14) <| .n rfl (bn c14) <| .n rfl (bn c14) <| .n rfl (bn c14) <| .o (pkFV rfl (bn c14) rfl) <| .a rfl <| .nilL _ ⟨.ptr rfl, cB rfl (mAndF (bn c14)), trivial⟩)
            refine .seq <| .reg0 rfl (.op 0 rfl (asV rfl) <| .nil0) <| .block <| .keepL [0] [(1, .ptr 0 1 3 0 0), (3, bo ((a0.Dim == 0) && ((a0.Parts.length : Int) == 2))), (4, i6 0)] [⟨3, [(TSpace.lit a0)], 0, none⟩] (by decide) (by decide) ⟨.ptr rfl, .free rfl rfl, .free rfl rfl, trivial⟩ ⟨⟨_, rfl, bcBox (all2_free rfl)⟩, trivial⟩ ?_
            obtain ⟨o1, hL1, h⟩ := h
            refine .loopB (r05_Space.b1 self45 a0) (fun (x2, x3) => listEnv [(1, .ptr 0 1 3 0 0), (3, bo x2), (4, i6 x3)]) (fun (x2, x3) => [⟨3, [(TSpace.lit a0)], 0, none⟩]) (fun x4 => listEnv [(3, bo x4)]) (fun x4 => []) hL1 (fun r_ => r = r_) ?_ ?_ ?_
            · rintro x4 rfl
              try dsimp only [Fin.on] at h
              refine .inBlock <| .seq <| .seq <| .reg0 rfl (.op 0 rfl (mvV rfl) <| .op 0 rfl (notB rfl) <| .nil0) ?_
              by_cases c24 : x4 = true
              · rw [if_pos c24] at h
                refine .condF rfl (bnotF c24) <| .skip <| .seq <| .reg0 rfl (.op 0 rfl (asV rfl) <| .nil0) ?_
                replace h := h.symm
                subst h
                refine .kf [(2, i6 0)] rfl rfl ?_
                exact .ret rfl
              · rw [if_neg c24] at h
                refine .condT rfl (bnotT (nb c24)) <| .seq <| .reg0 rfl (.op 0 rfl (asV rfl) <| .nil0) ?_
                replace h := h.symm
                subst h
                refine .kf [(2, i6 50)] rfl rfl ?_
                exact .ret rfl
            · rintro r_ rfl
              exact h
            · rintro ⟨x2, x3⟩ z1 h hn1 hx1 hr1
              dsimp only [r05_Space.b1] at h
              refine .seq <| .seq ?_
              refine .reg0 (e1 := listEnv [(1, .ptr 0 1 3 0 0), (3, bo x2), (4, i6 x3), (69, bo ((decide (x3 < (a0.Parts.length : Int))) && x2))]) (H1 := [⟨3, [(TSpace.lit a0)], 0, none⟩]) rfl ?_ ?_
              · refine .m rfl <| .o (faP fa25_2 rfl) <| .o (ldP rfl sz23 ag23 rfl) <| .o (lnR (l := a0.Parts) sl23 rfl) <| .o (ltI rfl rfl) <| .m rfl <| ?_
                by_cases c21 : x3 < (a0.Parts.length : Int)
                · exact (.g rfl (dt c21) (mvV rfl) <| .o (pkTV rfl (dt c21) rfl) <| .nilL _ ⟨.ptr rfl, .free rfl rfl, .free rfl rfl, cB rfl (mAndT (dt c21) rfl), trivial⟩)
                · exact (.n rfl (df c21) <| .o (pkFV rfl (df c21) rfl) <| .nilL _ ⟨.ptr rfl, .free rfl rfl, .free rfl rfl, cB rfl (mAndF (df c21)), trivial⟩)
              by_cases c22 : ((decide (x3 < (a0.Parts.length : Int))) && x2) = true
              · rw [if_pos c22] at h
                refine .condT rfl c22 <| .skip <| .seq <| .block ?_
                obtain ⟨g30_3, h⟩ := h
                obtain ⟨g30_11, h⟩ := h
                obtain ⟨t30_13, g30_13, h⟩ := h
                refine .reg0 (e1 := listEnv [(1, .ptr 0 1 3 0 0), (3, bo ((!((rdl a0.Parts x3).Tag == 5)) && (t30_13 == 0))), (4, i6 x3)]) (H1 := [⟨3, [(TSpace.lit a0)], 0, none⟩]) rfl ?_ ?_
                · refine .o (faP fa25_2 rfl) <| .o (ldP rfl sz23 ag23 rfl) <| .m rfl <| .o (ixR (l := a0.Parts) (lit := TSpace.lit) sl23 rfl rfl TSpace.cells_lit g30_3.1 g30_3.2) <| .o (faC fa25_0 rfl) <| .o (ldC rfl sz22 ag22 rfl) <| .o (neI rfl rfl) <| .m rfl <| ?_
                  by_cases c23 : (rdl a0.Parts x3).Tag = 5
                  · exact (.n rfl (nf c23) <| .n rfl (nf c23) <| .n rfl (nf c23) <| .n rfl (nf c23) <| .n rfl (nf c23) <| .n rfl (nf c23) <| .n rfl (nf c23) <| .o (pkFV rfl (nf c23) rfl) <| .a rfl <| .nilL _ ⟨.ptr rfl, cB rfl (mAndF (bnotF (bt c23))), .free rfl rfl, trivial⟩)
                  · exact (.g rfl (nt c23) (faP fa25_2 rfl) <| .g rfl (nt c23) (ldP rfl sz23 ag23 rfl) <| .g rfl (nt c23) (mvV rfl) <| .g rfl (nt c23) (ixR (l := a0.Parts) (lit := TSpace.lit) sl23 rfl rfl TSpace.cells_lit (g30_11 c23).1 (g30_11 c23).2) <| .g rfl (nt c23) (ldCG rfl sz25 ag25 rfl) <| .callI (gT rfl rfl rfl (nt c23)) (callee_of rfl go45 rfl) (.pure rfl rfl (hs45 _ _ (g30_13 c23))) <| .g rfl (nt c23) (eqI rfl rfl) <| .o (pkTV rfl (nt c23) rfl) <| .a rfl <| .nilL _ ⟨.ptr rfl, cB rfl (mAndT (bnotT (bn c23)) rfl), .free rfl rfl, trivial⟩)
                refine .inBlock <| .reg0 rfl (.op 0 rfl (mvV rfl) <| .op 0 rfl (addI rfl rfl) <| .op 0 rfl (asV rfl) <| .nil0) <| .keepL [0] [(1, .ptr 0 1 3 0 0), (3, bo ((!((rdl a0.Parts x3).Tag == 5)) && (t30_13 == 0))), (4, i6 (IntKind.i64.wrap (x3 + 1)))] [⟨3, [(TSpace.lit a0)], 0, none⟩] (by decide) (by decide) ⟨.ptr rfl, .free rfl rfl, .free rfl rfl, trivial⟩ ⟨⟨_, rfl, bcBox (all2_free rfl)⟩, trivial⟩ ?_
                exact hn1 _ h
              · rw [if_neg c22] at h
                refine .condF rfl (nb c22) <| .exit rfl <| .keepL [] [(3, bo x2)] [] (by decide) (by decide) ⟨.free rfl rfl, trivial⟩ trivial ?_
                exact hx1 _ h
          · rw [if_neg c13] at h
            refine .condF rfl (bn c13) <| .reg0 rfl (.a rfl <| .nil0) <| .inBlock <| .seq <| .seq <| .reg0 rfl (.op 0 rfl (mvV rfl) <| .op 0 rfl (notB rfl) <| .nil0) <| .condT rfl (bnotT rfl) <| .seq <| .reg0 rfl (.op 0 rfl (asV rfl) <| .nil0) ?_
            replace h := h.symm
            subst h
            refine .kf [(2, i6 50)] rfl rfl ?_
            exact .ret rfl
      · by_cases c25 : a0.Tag = 3
        · rw [if_pos c25] at h
          refine .condT rfl (bt c25) <| .skip <| .keepL [0] [(1, .ptr 0 1 3 0 0), (6, i6 a0.Tag), (34, bo (a0.Tag == 3))] [⟨3, [(TSpace.lit a0)], 0, none⟩] (by decide) (by decide) ⟨.ptr rfl, .free rfl rfl, .free rfl rfl, trivial⟩ ⟨⟨_, rfl, bcBox (all2_free rfl)⟩, trivial⟩ ?_
          exact hJ1 _ h
        · rw [if_neg c25] at h
          refine .condF rfl (bn c25) <| .reg0 rfl (.o (eqI rfl rfl) <| .a rfl <| .nil0) <| .keepL [0] [(1, .ptr 0 1 3 0 0), (6, i6 a0.Tag), (34, bo (a0.Tag == 4))] [⟨3, [(TSpace.lit a0)], 0, none⟩] (by decide) (by decide) ⟨.ptr rfl, .free rfl rfl, .free rfl rfl, trivial⟩ ⟨⟨_, rfl, bcBox (all2_free rfl)⟩, trivial⟩ ?_
          exact hJ1 _ h
def r05_Space.fN : Nat → TSpace → Int → Prop
  | 0 => fun _ _ => False
  | n + 1 => r05_Space.step (r05_Space.fN n)
theorem r05_Space.ND : ∀ (n : Nat) {a0 : TSpace} {r : Int} (h : r05_Space.fN n a0 r), D Tryz.prog X (.callH 45 [.agg (TSpace.lit a0)] [] (.val (.int .i64 r)) [])
  | 0, _, _, h => h.elim
  | n + 1, _, _, h => r05_Space.stepD (fun _ _ h => r05_Space.ND n h) h
def r05_Space.f (a0 : TSpace) (r : Int) : Prop := ∃ n, r05_Space.fN n a0 r
theorem r05_Space.D {a0 r} (h : r05_Space.f a0 r) : D Tryz.prog X (.callH 45 [.agg (TSpace.lit a0)] [] (.val (.int .i64 r)) []) := by obtain ⟨n, h⟩ := h; exact r05_Space.ND n h
def r05_plain.f (a0 : TWeight) (a1 : Bool) (a2 : Bool) (a3 : Bool) (a4 : Bool) (r : Bool) : Prop :=
  r = (bif a1 then (bif a2 then (bif a3 then (a4 || ((a0.Parts.length : Int) == 0)) else (((a0.Cells.length : Int) == 0) && (a4 || ((a0.Parts.length : Int) == 0)))) else ((a0.Facts.Gen == 0) && (((a0.Facts.Rows.length : Int) == 0) && (bif a3 then (a4 || ((a0.Parts.length : Int) == 0)) else (((a0.Cells.length : Int) == 0) && (a4 || ((a0.Parts.length : Int) == 0))))))) else ((a0.Cost == 0) && (bif a2 then (bif a3 then (a4 || ((a0.Parts.length : Int) == 0)) else (((a0.Cells.length : Int) == 0) && (a4 || ((a0.Parts.length : Int) == 0)))) else ((a0.Facts.Gen == 0) && (((a0.Facts.Rows.length : Int) == 0) && (bif a3 then (a4 || ((a0.Parts.length : Int) == 0)) else (((a0.Cells.length : Int) == 0) && (a4 || ((a0.Parts.length : Int) == 0)))))))))
theorem r05_plain.D {a0 a1 a2 a3 a4 r} (h : r05_plain.f a0 a1 a2 a3 a4 r) : D Tryz.prog X (.callH 90 [.agg (TWeight.lit a0), .val (.bool a1), .val (.bool a2), .val (.bool a3), .val (.bool a4)] [] (.val (.bool r)) []) := by
  unfold r05_plain.f at h
  refine .enter 51 0 fn90 rfl rfl rfl <| .seq <| .room 0 <| .reg0 rfl (.op 0 rfl (bxP (s := 6) (cs := (TWeight.lit a0)) rfl ⟨rfl, by decide, rfl⟩ rfl) <| .op 0 rfl (asV rfl) <| .nil0) <| .seq ?_
  refine .reg0 (e1 := listEnv [(10, bo (bif a1 then (bif a2 then (bif a3 then (a4 || ((a0.Parts.length : Int) == 0)) else (((a0.Cells.length : Int) == 0) && (a4 || ((a0.Parts.length : Int) == 0)))) else ((a0.Facts.Gen == 0) && (((a0.Facts.Rows.length : Int) == 0) && (bif a3 then (a4 || ((a0.Parts.length : Int) == 0)) else (((a0.Cells.length : Int) == 0) && (a4 || ((a0.Parts.length : Int) == 0))))))) else ((a0.Cost == 0) && (bif a2 then (bif a3 then (a4 || ((a0.Parts.length : Int) == 0)) else (((a0.Cells.length : Int) == 0) && (a4 || ((a0.Parts.length : Int) == 0)))) else ((a0.Facts.Gen == 0) && (((a0.Facts.Rows.length : Int) == 0) && (bif a3 then (a4 || ((a0.Parts.length : Int) == 0)) else (((a0.Cells.length : Int) == 0) && (a4 || ((a0.Parts.length : Int) == 0))))))))))]) (H1 := [⟨6, [(TWeight.lit a0)], 0, none⟩]) rfl ?_ ?_
  · refine .m rfl <| .m rfl <| ?_
    by_cases c1 : a1 = true
    · refine .n rfl c1 <| .n rfl c1 <| .n rfl c1 <| .o (pkTV rfl c1 rfl) <| .m rfl <| .g rfl rfl (mvV rfl) <| .g rfl rfl (mvV rfl) <| ?_
      by_cases c2 : a2 = true
      · refine .n rfl c2 <| .n rfl c2 <| .n rfl c2 <| .n rfl c2 <| .n rfl c2 <| .u rfl <| .u rfl <| .u rfl <| .u rfl <| .u rfl <| .n rfl c2 <| .g rfl rfl (pkTV rfl c2 rfl) <| .o (pkTV rfl rfl rfl) <| .m rfl <| .g rfl rfl (mvV rfl) <| .g rfl rfl (mvV rfl) <| ?_
        by_cases c3 : a3 = true
        · refine .n rfl c3 <| .n rfl c3 <| .n rfl c3 <| .n rfl c3 <| .g rfl rfl (pkTV rfl c3 rfl) <| .o (pkTV rfl rfl rfl) <| .m rfl <| .g rfl rfl (mvV rfl) <| .g rfl rfl (mvV rfl) <| ?_
          by_cases c4 : a4 = true
          · exact (.n rfl c4 <| .n rfl c4 <| .n rfl c4 <| .n rfl c4 <| .g rfl rfl (pkTV rfl c4 rfl) <| .o (pkTV rfl rfl rfl) <| .a rfl <| .nilL _ ⟨cB rfl (mIteT c1 (mIteT c2 (mIteT c3 (mOrT c4)))), trivial⟩)
          · exact (.g rfl (nb c4) (faP fa39_4 rfl) <| .g rfl (nb c4) (ldP rfl sz37 ag37 rfl) <| .g rfl (nb c4) (lnR (l := a0.Parts) sl37 rfl) <| .g rfl (nb c4) (eqI rfl rfl) <| .g rfl rfl (pkFV rfl (nb c4) rfl) <| .o (pkTV rfl rfl rfl) <| .a rfl <| .nilL _ ⟨cB rfl (mIteT c1 (mIteT c2 (mIteT c3 (mOrF (nb c4) rfl)))), trivial⟩)
        · refine .g rfl (nb c3) (faP fa39_3 rfl) <| .g rfl (nb c3) (ldP rfl sz36 ag36 rfl) <| .g rfl (nb c3) (lnR (l := a0.Cells) sl36 rfl) <| .g rfl (nb c3) (eqI rfl rfl) <| .g rfl rfl (pkFV rfl (nb c3) rfl) <| .o (pkTV rfl rfl rfl) <| .m rfl <| ?_
          by_cases c5 : (a0.Cells.length : Int) = 0
          · refine .g rfl (bt c5) (mvV rfl) <| .g rfl (bt c5) (mvV rfl) <| ?_
            by_cases c6 : a4 = true
            · exact (.n rfl c6 <| .n rfl c6 <| .n rfl c6 <| .n rfl c6 <| .g rfl (bt c5) (pkTV rfl c6 rfl) <| .o (pkTV rfl (bt c5) rfl) <| .a rfl <| .nilL _ ⟨cB rfl (mIteT c1 (mIteT c2 (mIteF (nb c3) (mAndT (bt c5) (mOrT c6))))), trivial⟩)
            · exact (.g rfl (nb c6) (faP fa39_4 rfl) <| .g rfl (nb c6) (ldP rfl sz37 ag37 rfl) <| .g rfl (nb c6) (lnR (l := a0.Parts) sl37 rfl) <| .g rfl (nb c6) (eqI rfl rfl) <| .g rfl (bt c5) (pkFV rfl (nb c6) rfl) <| .o (pkTV rfl (bt c5) rfl) <| .a rfl <| .nilL _ ⟨cB rfl (mIteT c1 (mIteT c2 (mIteF (nb c3) (mAndT (bt c5) (mOrF (nb c6) rfl))))), trivial⟩)
          · exact (.n rfl (bn c5) <| .n rfl (bn c5) <| .u rfl <| .u rfl <| .u rfl <| .u rfl <| .n rfl (bn c5) <| .o (pkFV rfl (bn c5) rfl) <| .a rfl <| .nilL _ ⟨cB rfl (mIteT c1 (mIteT c2 (mIteF (nb c3) (mAndF (bn c5))))), trivial⟩)
      · refine .g rfl (nb c2) (faP fa39_2 rfl) <| .g rfl (nb c2) (faP fa35_0 rfl) <| .g rfl (nb c2) (ldP rfl sz32 ag32 rfl) <| .g rfl (nb c2) (eqI rfl rfl) <| .g rfl (nb c2) (mvV rfl) <| ?_
        by_cases c7 : a0.Facts.Gen = 0
        · refine .g rfl (bt c7) (faP fa39_2 rfl) <| .g rfl (bt c7) (faP fa35_1 rfl) <| .g rfl (bt c7) (ldP rfl sz33 ag33 rfl) <| .g rfl (bt c7) (lnR (l := a0.Facts.Rows) sl33 rfl) <| .g rfl (bt c7) (eqI rfl rfl) <| .g rfl (nb c2) (pkTV rfl (bt c7) rfl) <| .g rfl rfl (pkFV rfl (nb c2) rfl) <| .o (pkTV rfl rfl rfl) <| .m rfl <| ?_
          by_cases c8 : (a0.Facts.Rows.length : Int) = 0
          · refine .g rfl (bt c8) (mvV rfl) <| .g rfl (bt c8) (mvV rfl) <| ?_
            by_cases c9 : a3 = true
            · refine .n rfl c9 <| .n rfl c9 <| .n rfl c9 <| .n rfl c9 <| .g rfl (bt c8) (pkTV rfl c9 rfl) <| .o (pkTV rfl (bt c8) rfl) <| .m rfl <| .g rfl rfl (mvV rfl) <| .g rfl rfl (mvV rfl) <| ?_
              by_cases c10 : a4 = true
              · exact (.n rfl c10 <| .n rfl c10 <| .n rfl c10 <| .n rfl c10 <| .g rfl rfl (pkTV rfl c10 rfl) <| .o (pkTV rfl rfl rfl) <| .a rfl <| .nilL _ ⟨cB rfl (mIteT c1 (mIteF (nb c2) (mAndT (bt c7) (mAndT (bt c8) (mIteT c9 (mOrT c10)))))), trivial⟩)
              · exact (.g rfl (nb c10) (faP fa39_4 rfl) <| .g rfl (nb c10) (ldP rfl sz37 ag37 rfl) <| .g rfl (nb c10) (lnR (l := a0.Parts) sl37 rfl) <| .g rfl (nb c10) (eqI rfl rfl) <| .g rfl rfl (pkFV rfl (nb c10) rfl) <| .o (pkTV rfl rfl rfl) <| .a rfl <| .nilL _ ⟨cB rfl (mIteT c1 (mIteF (nb c2) (mAndT (bt c7) (mAndT (bt c8) (mIteT c9 (mOrF (nb c10) rfl)))))), trivial⟩)
            · refine .g rfl (nb c9) (faP fa39_3 rfl) <| .g rfl (nb c9) (ldP rfl sz36 ag36 rfl) <| .g rfl (nb c9) (lnR (l := a0.Cells) sl36 rfl) <| .g rfl (nb c9) (eqI rfl rfl) <| .g rfl (bt c8) (pkFV rfl (nb c9) rfl) <| .o (pkTV rfl (bt c8) rfl) <| .m rfl <| ?_
              by_cases c11 : (a0.Cells.length : Int) = 0
              · refine .g rfl (bt c11) (mvV rfl) <| .g rfl (bt c11) (mvV rfl) <| ?_
                by_cases c12 : a4 = true
                · exact (.n rfl c12 <| .n rfl c12 <| .n rfl c12 <| .n rfl c12 <| .g rfl (bt c11) (pkTV rfl c12 rfl) <| .o (pkTV rfl (bt c11) rfl) <| .a rfl <| .nilL _ ⟨cB rfl (mIteT c1 (mIteF (nb c2) (mAndT (bt c7) (mAndT (bt c8) (mIteF (nb c9) (mAndT (bt c11) (mOrT c12))))))), trivial⟩)
                · exact (.g rfl (nb c12) (faP fa39_4 rfl) <| .g rfl (nb c12) (ldP rfl sz37 ag37 rfl) <| .g rfl (nb c12) (lnR (l := a0.Parts) sl37 rfl) <| .g rfl (nb c12) (eqI rfl rfl) <| .g rfl (bt c11) (pkFV rfl (nb c12) rfl) <| .o (pkTV rfl (bt c11) rfl) <| .a rfl <| .nilL _ ⟨cB rfl (mIteT c1 (mIteF (nb c2) (mAndT (bt c7) (mAndT (bt c8) (mIteF (nb c9) (mAndT (bt c11) (mOrF (nb c12) rfl))))))), trivial⟩)
              · exact (.n rfl (bn c11) <| .n rfl (bn c11) <| .u rfl <| .u rfl <| .u rfl <| .u rfl <| .n rfl (bn c11) <| .o (pkFV rfl (bn c11) rfl) <| .a rfl <| .nilL _ ⟨cB rfl (mIteT c1 (mIteF (nb c2) (mAndT (bt c7) (mAndT (bt c8) (mIteF (nb c9) (mAndF (bn c11))))))), trivial⟩)
          · exact (.n rfl (bn c8) <| .n rfl (bn c8) <| .u rfl <| .u rfl <| .u rfl <| .u rfl <| .n rfl (bn c8) <| .o (pkFV rfl (bn c8) rfl) <| .m rfl <| .n rfl rfl <| .n rfl rfl <| .u rfl <| .u rfl <| .u rfl <| .u rfl <| .n rfl rfl <| .o (pkFV rfl rfl rfl) <| .a rfl <| .nilL _ ⟨cB rfl (mIteT c1 (mIteF (nb c2) (mAndT (bt c7) (mAndF (bn c8))))), trivial⟩)
        · exact (.n rfl (bn c7) <| .n rfl (bn c7) <| .n rfl (bn c7) <| .n rfl (bn c7) <| .n rfl (bn c7) <| .g rfl (nb c2) (pkFV rfl (bn c7) rfl) <| .g rfl rfl (pkFV rfl (nb c2) rfl) <| .o (pkTV rfl rfl rfl) <| .m rfl <| .n rfl rfl <| .n rfl rfl <| .u rfl <| .u rfl <| .u rfl <| .u rfl <| .n rfl rfl <| .o (pkFV rfl rfl rfl) <| .m rfl <| .n rfl rfl <| .n rfl rfl <| .u rfl <| .u rfl <| .u rfl <| .u rfl <| .n rfl rfl <| .o (pkFV rfl rfl rfl) <| .a rfl <| .nilL _ ⟨cB rfl (mIteT c1 (mIteF (nb c2) (mAndF (bn c7)))), trivial⟩)
    · refine .g rfl (nb c1) (faP fa39_1 rfl) <| .g rfl (nb c1) (ldP rfl sz3 ag3 rfl) <| .g rfl (nb c1) (eqI rfl rfl) <| .o (pkFV rfl (nb c1) rfl) <| .m rfl <| ?_
      by_cases c13 : a0.Cost = 0
      · refine .g rfl (bt c13) (mvV rfl) <| .g rfl (bt c13) (mvV rfl) <| ?_
        by_cases c14 : a2 = true
        · refine .n rfl c14 <| .n rfl c14 <| .n rfl c14 <| .n rfl c14 <| .n rfl c14 <| .u rfl <| .u rfl <| .u rfl <| .u rfl <| .u rfl <| .n rfl c14 <| .g rfl (bt c13) (pkTV rfl c14 rfl) <| .o (pkTV rfl (bt c13) rfl) <| .m rfl <| .g rfl rfl (mvV rfl) <| .g rfl rfl (mvV rfl) <| ?_
          by_cases c15 : a3 = true
          · refine .n rfl c15 <| .n rfl c15 <| .n rfl c15 <| .n rfl c15 <| .g rfl rfl (pkTV rfl c15 rfl) <| .o (pkTV rfl rfl rfl) <| .m rfl <| .g rfl rfl (mvV rfl) <| .g rfl rfl (mvV rfl) <| ?_
            by_cases c16 : a4 = true
            · exact (.n rfl c16 <| .n rfl c16 <| .n rfl c16 <| .n rfl c16 <| .g rfl rfl (pkTV rfl c16 rfl) <| .o (pkTV rfl rfl rfl) <| .a rfl <| .nilL _ ⟨cB rfl (mIteF (nb c1) (mAndT (bt c13) (mIteT c14 (mIteT c15 (mOrT c16))))), trivial⟩)
            · exact (.g rfl (nb c16) (faP fa39_4 rfl) <| .g rfl (nb c16) (ldP rfl sz37 ag37 rfl) <| .g rfl (nb c16) (lnR (l := a0.Parts) sl37 rfl) <| .g rfl (nb c16) (eqI rfl rfl) <| .g rfl rfl (pkFV rfl (nb c16) rfl) <| .o (pkTV rfl rfl rfl) <| .a rfl <| .nilL _ ⟨cB rfl (mIteF (nb c1) (mAndT (bt c13) (mIteT c14 (mIteT c15 (mOrF (nb c16) rfl))))), trivial⟩)
          · refine .g rfl (nb c15) (faP fa39_3 rfl) <| .g rfl (nb c15) (ldP rfl sz36 ag36 rfl) <| .g rfl (nb c15) (lnR (l := a0.Cells) sl36 rfl) <| .g rfl (nb c15) (eqI rfl rfl) <| .g rfl rfl (pkFV rfl (nb c15) rfl) <| .o (pkTV rfl rfl rfl) <| .m rfl <| ?_
            by_cases c17 : (a0.Cells.length : Int) = 0
            · refine .g rfl (bt c17) (mvV rfl) <| .g rfl (bt c17) (mvV rfl) <| ?_
              by_cases c18 : a4 = true
              · exact (.n rfl c18 <| .n rfl c18 <| .n rfl c18 <| .n rfl c18 <| .g rfl (bt c17) (pkTV rfl c18 rfl) <| .o (pkTV rfl (bt c17) rfl) <| .a rfl <| .nilL _ ⟨cB rfl (mIteF (nb c1) (mAndT (bt c13) (mIteT c14 (mIteF (nb c15) (mAndT (bt c17) (mOrT c18)))))), trivial⟩)
              · exact (.g rfl (nb c18) (faP fa39_4 rfl) <| .g rfl (nb c18) (ldP rfl sz37 ag37 rfl) <| .g rfl (nb c18) (lnR (l := a0.Parts) sl37 rfl) <| .g rfl (nb c18) (eqI rfl rfl) <| .g rfl (bt c17) (pkFV rfl (nb c18) rfl) <| .o (pkTV rfl (bt c17) rfl) <| .a rfl <| .nilL _ ⟨cB rfl (mIteF (nb c1) (mAndT (bt c13) (mIteT c14 (mIteF (nb c15) (mAndT (bt c17) (mOrF (nb c18) rfl)))))), trivial⟩)
            · exact (.n rfl (bn c17) <| .n rfl (bn c17) <| .u rfl <| .u rfl <| .u rfl <| .u rfl <| .n rfl (bn c17) <| .o (pkFV rfl (bn c17) rfl) <| .a rfl <| .nilL _ ⟨cB rfl (mIteF (nb c1) (mAndT (bt c13) (mIteT c14 (mIteF (nb c15) (mAndF (bn c17)))))), trivial⟩)
        · refine .g rfl (nb c14) (faP fa39_2 rfl) <| .g rfl (nb c14) (faP fa35_0 rfl) <| .g rfl (nb c14) (ldP rfl sz32 ag32 rfl) <| .g rfl (nb c14) (eqI rfl rfl) <| .g rfl (nb c14) (mvV rfl) <| ?_
          by_cases c19 : a0.Facts.Gen = 0
          · refine .g rfl (bt c19) (faP fa39_2 rfl) <| .g rfl (bt c19) (faP fa35_1 rfl) <| .g rfl (bt c19) (ldP rfl sz33 ag33 rfl) <| .g rfl (bt c19) (lnR (l := a0.Facts.Rows) sl33 rfl) <| .g rfl (bt c19) (eqI rfl rfl) <| .g rfl (nb c14) (pkTV rfl (bt c19) rfl) <| .g rfl (bt c13) (pkFV rfl (nb c14) rfl) <| .o (pkTV rfl (bt c13) rfl) <| .m rfl <| ?_
            by_cases c20 : (a0.Facts.Rows.length : Int) = 0
            · refine .g rfl (bt c20) (mvV rfl) <| .g rfl (bt c20) (mvV rfl) <| ?_
              by_cases c21 : a3 = true
              · refine .n rfl c21 <| .n rfl c21 <| .n rfl c21 <| .n rfl c21 <| .g rfl (bt c20) (pkTV rfl c21 rfl) <| .o (pkTV rfl (bt c20) rfl) <| .m rfl <| .g rfl rfl (mvV rfl) <| .g rfl rfl (mvV rfl) <| ?_
                by_cases c22 : a4 = true
                · exact (.n rfl c22 <| .n rfl c22 <| .n rfl c22 <| .n rfl c22 <| .g rfl rfl (pkTV rfl c22 rfl) <| .o (pkTV rfl rfl rfl) <| .a rfl <| .nilL _ ⟨cB rfl (mIteF (nb c1) (mAndT (bt c13) (mIteF (nb c14) (mAndT (bt c19) (mAndT (bt c20) (mIteT c21 (mOrT c22))))))), trivial⟩)
                · exact (.g rfl (nb c22) (faP fa39_4 rfl) <| .g rfl (nb c22) (ldP rfl sz37 ag37 rfl) <| .g rfl (nb c22) (lnR (l := a0.Parts) sl37 rfl) <| .g rfl (nb c22) (eqI rfl rfl) <| .g rfl rfl (pkFV rfl (nb c22) rfl) <| .o (pkTV rfl rfl rfl) <| .a rfl <| .nilL _ ⟨cB rfl (mIteF (nb c1) (mAndT (bt c13) (mIteF (nb c14) (mAndT (bt c19) (mAndT (bt c20) (mIteT c21 (mOrF (nb c22) rfl))))))), trivial⟩)
              · refine .g rfl (nb c21) (faP fa39_3 rfl) <| .g rfl (nb c21) (ldP rfl sz36 ag36 rfl) <| .g rfl (nb c21) (lnR (l := a0.Cells) sl36 rfl) <| .g rfl (nb c21) (eqI rfl rfl) <| .g rfl (bt c20) (pkFV rfl (nb c21) rfl) <| .o (pkTV rfl (bt c20) rfl) <| .m rfl <| ?_
                by_cases c23 : (a0.Cells.length : Int) = 0
                · refine .g rfl (bt c23) (mvV rfl) <| .g rfl (bt c23) (mvV rfl) <| ?_
                  by_cases c24 : a4 = true
                  · exact (.n rfl c24 <| .n rfl c24 <| .n rfl c24 <| .n rfl c24 <| .g rfl (bt c23) (pkTV rfl c24 rfl) <| .o (pkTV rfl (bt c23) rfl) <| .a rfl <| .nilL _ ⟨cB rfl (mIteF (nb c1) (mAndT (bt c13) (mIteF (nb c14) (mAndT (bt c19) (mAndT (bt c20) (mIteF (nb c21) (mAndT (bt c23) (mOrT c24)))))))), trivial⟩)
                  · exact (.g rfl (nb c24) (faP fa39_4 rfl) <| .g rfl (nb c24) (ldP rfl sz37 ag37 rfl) <| .g rfl (nb c24) (lnR (l := a0.Parts) sl37 rfl) <| .g rfl (nb c24) (eqI rfl rfl) <| .g rfl (bt c23) (pkFV rfl (nb c24) rfl) <| .o (pkTV rfl (bt c23) rfl) <| .a rfl <| .nilL _ ⟨cB rfl (mIteF (nb c1) (mAndT (bt c13) (mIteF (nb c14) (mAndT (bt c19) (mAndT (bt c20) (mIteF (nb c21) (mAndT (bt c23) (mOrF (nb c24) rfl)))))))), trivial⟩)
                · exact (.n rfl (bn c23) <| .n rfl (bn c23) <| .u rfl <| .u rfl <| .u rfl <| .u rfl <| .n rfl (bn c23) <| .o (pkFV rfl (bn c23) rfl) <| .a rfl <| .nilL _ ⟨cB rfl (mIteF (nb c1) (mAndT (bt c13) (mIteF (nb c14) (mAndT (bt c19) (mAndT (bt c20) (mIteF (nb c21) (mAndF (bn c23)))))))), trivial⟩)
            · exact (.n rfl (bn c20) <| .n rfl (bn c20) <| .u rfl <| .u rfl <| .u rfl <| .u rfl <| .n rfl (bn c20) <| .o (pkFV rfl (bn c20) rfl) <| .m rfl <| .n rfl rfl <| .n rfl rfl <| .u rfl <| .u rfl <| .u rfl <| .u rfl <| .n rfl rfl <| .o (pkFV rfl rfl rfl) <| .a rfl <| .nilL _ ⟨cB rfl (mIteF (nb c1) (mAndT (bt c13) (mIteF (nb c14) (mAndT (bt c19) (mAndF (bn c20)))))), trivial⟩)
          · exact (.n rfl (bn c19) <| .n rfl (bn c19) <| .n rfl (bn c19) <| .n rfl (bn c19) <| .n rfl (bn c19) <| .g rfl (nb c14) (pkFV rfl (bn c19) rfl) <| .g rfl (bt c13) (pkFV rfl (nb c14) rfl) <| .o (pkTV rfl (bt c13) rfl) <| .m rfl <| .n rfl rfl <| .n rfl rfl <| .u rfl <| .u rfl <| .u rfl <| .u rfl <| .n rfl rfl <| .o (pkFV rfl rfl rfl) <| .m rfl <| .n rfl rfl <| .n rfl rfl <| .u rfl <| .u rfl <| .u rfl <| .u rfl <| .n rfl rfl <| .o (pkFV rfl rfl rfl) <| .a rfl <| .nilL _ ⟨cB rfl (mIteF (nb c1) (mAndT (bt c13) (mIteF (nb c14) (mAndF (bn c19))))), trivial⟩)
      · exact (.n rfl (bn c13) <| .n rfl (bn c13) <| .u rfl <| .u rfl <| .u rfl <| .u rfl <| .u rfl <| .u rfl <| .u rfl <| .u rfl <| .u rfl <| .u rfl <| .u rfl <| .n rfl (bn c13) <| .o (pkFV rfl (bn c13) rfl) <| .m rfl <| .n rfl rfl <| .n rfl rfl <| .u rfl <| .u rfl <| .u rfl <| .u rfl <| .n rfl rfl <| .o (pkFV rfl rfl rfl) <| .m rfl <| .n rfl rfl <| .n rfl rfl <| .u rfl <| .u rfl <| .u rfl <| .u rfl <| .n rfl rfl <| .o (pkFV rfl rfl rfl) <| .a rfl <| .nilL _ ⟨cB rfl (mIteF (nb c1) (mAndF (bn c13))), trivial⟩)
  replace h := h.symm
  subst h
  refine .kf [(10, bo (bif a1 then (bif a2 then (bif a3 then (a4 || ((a0.Parts.length : Int) == 0)) else (((a0.Cells.length : Int) == 0) && (a4 || ((a0.Parts.length : Int) == 0)))) else ((a0.Facts.Gen == 0) && (((a0.Facts.Rows.length : Int) == 0) && (bif a3 then (a4 || ((a0.Parts.length : Int) == 0)) else (((a0.Cells.length : Int) == 0) && (a4 || ((a0.Parts.length : Int) == 0))))))) else ((a0.Cost == 0) && (bif a2 then (bif a3 then (a4 || ((a0.Parts.length : Int) == 0)) else (((a0.Cells.length : Int) == 0) && (a4 || ((a0.Parts.length : Int) == 0)))) else ((a0.Facts.Gen == 0) && (((a0.Facts.Rows.length : Int) == 0) && (bif a3 then (a4 || ((a0.Parts.length : Int) == 0)) else (((a0.Cells.length : Int) == 0) && (a4 || ((a0.Parts.length : Int) == 0))))))))))] rfl rfl ?_
  exact .ret rfl
def r03_dim.f (a0 : Int) (r : Bool) : Prop :=
  r = ((decide (a0 ≥ 0)) && (decide (a0 ≤ 64)))
theorem r03_dim.D {a0 r} (h : r03_dim.f a0 r) : D Tryz.prog X (.callH 93 [.val (.int .i64 a0)] [] (.val (.bool r)) []) := by
  unfold r03_dim.f at h
  refine .enter 9 0 fn93 rfl rfl rfl <| .seq <| .reg0 rfl (.op 0 rfl (asV rfl) <| .nil0) <| .seq ?_
  refine .reg0 (e1 := listEnv [(2, bo ((decide (a0 ≥ 0)) && (decide (a0 ≤ 64))))]) (H1 := []) rfl ?_ ?_
  · refine .m rfl <| .o (geI rfl rfl) <| .m rfl <| ?_
    by_cases c1 : a0 ≥ 0
    · exact (.g rfl (dt c1) (mvV rfl) <| .g rfl (dt c1) (leI rfl rfl) <| .o (pkTV rfl (dt c1) rfl) <| .a rfl <| .nilL _ ⟨cB rfl (mAndT (dt c1) rfl), trivial⟩)
    · exact (.n rfl (df c1) <| .n rfl (df c1) <| .o (pkFV rfl (df c1) rfl) <| .a rfl <| .nilL _ ⟨cB rfl (mAndF (df c1)), trivial⟩)
  replace h := h.symm
  subst h
  refine .kf [(2, bo ((decide (a0 ≥ 0)) && (decide (a0 ≤ 64))))] rfl rfl ?_
  exact .ret rfl
def r01_Worth.b1 : (Int × Int) → Rnd ((Int × Int)) Int Int → Prop := fun (x1, x2) z1 => if x1 > 0 then (z1 = .next ((IntKind.i64.wrap (x1 - 1)), (IntKind.u64.wrap (x2 * 2)))) else (z1 = .exit x2)
def r01_Worth.f (a0 : Int) (r : Int) : Prop :=
  ∃ o1 : Fin Int Int, Loop (r01_Worth.b1) (a0, 1) o1 ∧ o1.on (fun x3 => r = x3) (fun r_ => r = r_)
theorem r01_Worth.D {a0 r} (h : r01_Worth.f a0 r) : D Tryz.prog X (.callH 62 [.val (.int .i64 a0)] [] (.val (.int .u64 r)) []) := by
  unfold r01_Worth.f at h
  refine .enter 11 0 fn62 rfl rfl rfl <| .seq <| .reg0 rfl (.op 0 rfl (asV rfl) <| .nil0) <| .seq <| .reg0 rfl (.op 0 rfl (asV rfl) <| .nil0) <| .seq <| .block <| .keepL [] [(0, i6 a0), (3, u6 1)] [] (by decide) (by decide) ⟨.free rfl rfl, .free rfl rfl, trivial⟩ trivial ?_
  obtain ⟨o1, hL1, h⟩ := h
  refine .loopB (r01_Worth.b1) (fun (x1, x2) => listEnv [(0, i6 x1), (3, u6 x2)]) (fun (x1, x2) => []) (fun x3 => listEnv [(3, u6 x3)]) (fun x3 => []) hL1 (fun r_ => r = r_) ?_ ?_ ?_
  · rintro x3 rfl
    try dsimp only [Fin.on] at h
    refine .seq <| .reg0 rfl (.op 0 rfl (mvV rfl) <| .op 0 rfl (asV rfl) <| .nil0) ?_
    replace h := h.symm
    subst h
    refine .kf [(2, u6 x3)] rfl rfl ?_
    exact .ret rfl
  · rintro r_ rfl
    exact h
  · rintro ⟨x1, x2⟩ z1 h hn1 hx1 hr1
    dsimp only [r01_Worth.b1] at h
    refine .seq <| .seq <| .reg0 rfl (.op 0 rfl (mvV rfl) <| .op 0 rfl (gtI rfl rfl) <| .nil0) ?_
    by_cases c3 : x1 > 0
    · rw [if_pos c3] at h
      refine .condT rfl (dt c3) <| .skip <| .seq <| .block <| .reg0 rfl (.op 0 rfl (mvV rfl) <| .op 0 rfl (mulI rfl rfl) <| .op 0 rfl (asV rfl) <| .nil0) <| .inBlock <| .reg0 rfl (.op 0 rfl (mvV rfl) <| .op 0 rfl (subI rfl rfl) <| .op 0 rfl (asV rfl) <| .nil0) <| .kf [(0, i6 (IntKind.i64.wrap (x1 - 1))), (3, u6 (IntKind.u64.wrap (x2 * 2)))] rfl rfl ?_
      exact hn1 _ h
    · rw [if_neg c3] at h
      refine .condF rfl (df c3) <| .exit rfl <| .keepL [] [(3, u6 x2)] [] (by decide) (by decide) ⟨.free rfl rfl, trivial⟩ trivial ?_
      exact hx1 _ h
def r01_Full.b1 (a0 : Int) : (Int × Int) → Rnd ((Int × Int)) Int (Int × Int) → Prop := fun (x1, x2) z1 => if x2 < a0 then (∃ t13_2 : Int, (r01_Worth.f x2 t13_2) ∧ z1 = .next ((IntKind.u64.wrap (x1 + t13_2)), (IntKind.i64.wrap (x2 + 1)))) else (z1 = .exit x1)
def r01_Full.f (a0 : Int) (r : Int × Int) : Prop :=
  if ((decide (a0 < 0)) || (decide (a0 > 64))) = true then (r = (0, 10)) else (∃ o1 : Fin Int (Int × Int), Loop (r01_Full.b1 a0) (0, 0) o1 ∧ o1.on (fun x3 => r = (x3, 0)) (fun r_ => r = r_))
theorem r01_Full.D {a0 r} (h : r01_Full.f a0 r) : D Tryz.prog X (.callH 127 [.val (.int .i64 a0)] [] (.tuple [.val (.int .u64 r.1), .val (.int .i64 r.2)]) []) := by
  unfold r01_Full.f at h
  refine .enter 22 0 fn127 rfl rfl rfl <| .seq <| .reg0 rfl (.op 0 rfl (asV rfl) <| .op 0 rfl (asV rfl) <| .nil0) <| .seq <| .seq ?_
  refine .reg0 (e1 := listEnv [(0, i6 a0), (11, bo ((decide (a0 < 0)) || (decide (a0 > 64))))]) (H1 := []) rfl ?_ ?_
  · refine .m rfl <| .o (ltI rfl rfl) <| .m rfl <| ?_
    by_cases c1 : a0 < 0
    · exact (.n rfl (dt c1) <| .n rfl (dt c1) <| .o (pkTV rfl (dt c1) rfl) <| .nilL _ ⟨.free rfl rfl, cB rfl (mOrT (dt c1)), trivial⟩)
    · exact (.g rfl (df c1) (mvV rfl) <| .g rfl (df c1) (gtI rfl rfl) <| .o (pkFV rfl (df c1) rfl) <| .nilL _ ⟨.free rfl rfl, cB rfl (mOrF (df c1) rfl), trivial⟩)
  by_cases c2 : ((decide (a0 < 0)) || (decide (a0 > 64))) = true
  · rw [if_pos c2] at h
    refine .condT rfl c2 <| .seq <| .reg0 rfl (.op 0 rfl (asV rfl) <| .op 0 rfl (asV rfl) <| .nil0) ?_
    replace h := h.symm
    subst h
    refine .kf [(2, u6 0), (3, i6 10)] rfl rfl ?_
    exact .ret rfl
  · rw [if_neg c2] at h
    refine .condF rfl (nb c2) <| .skip <| .seq <| .reg0 rfl (.op 0 rfl (asV rfl) <| .nil0) <| .seq <| .seq <| .reg0 rfl (.op 0 rfl (asV rfl) <| .nil0) <| .block <| .keepL [] [(0, i6 a0), (4, u6 0), (5, i6 0)] [] (by decide) (by decide) ⟨.free rfl rfl, .free rfl rfl, .free rfl rfl, trivial⟩ trivial ?_
    obtain ⟨o1, hL1, h⟩ := h
    refine .loopB (r01_Full.b1 a0) (fun (x1, x2) => listEnv [(0, i6 a0), (4, u6 x1), (5, i6 x2)]) (fun (x1, x2) => []) (fun x3 => listEnv [(4, u6 x3)]) (fun x3 => []) hL1 (fun r_ => r = r_) ?_ ?_ ?_
    · rintro x3 rfl
      try dsimp only [Fin.on] at h
      refine .seq <| .reg0 rfl (.op 0 rfl (mvV rfl) <| .op 0 rfl (asV rfl) <| .op 0 rfl (asV rfl) <| .nil0) ?_
      replace h := h.symm
      subst h
      refine .kf [(2, u6 x3), (3, i6 0)] rfl rfl ?_
      exact .ret rfl
    · rintro r_ rfl
      exact h
    · rintro ⟨x1, x2⟩ z1 h hn1 hx1 hr1
      dsimp only [r01_Full.b1] at h
      refine .seq <| .seq <| .reg0 rfl (.op 0 rfl (mvV rfl) <| .op 0 rfl (mvV rfl) <| .op 0 rfl (ltI rfl rfl) <| .nil0) ?_
      by_cases c5 : x2 < a0
      · rw [if_pos c5] at h
        refine .condT rfl (dt c5) <| .skip <| .seq <| .block ?_
        obtain ⟨t13_2, g13_2, h⟩ := h
        refine .reg0 rfl (.m rfl <| .m rfl <| .c rfl go62 rfl rfl rfl (r01_Worth.D g13_2) <| .o (addI rfl rfl) <| .a rfl <| .nil0) <| .inBlock <| .reg0 rfl (.op 0 rfl (mvV rfl) <| .op 0 rfl (addI rfl rfl) <| .op 0 rfl (asV rfl) <| .nil0) <| .kf [(0, i6 a0), (4, u6 (IntKind.u64.wrap (x1 + t13_2))), (5, i6 (IntKind.i64.wrap (x2 + 1)))] rfl rfl ?_
        exact hn1 _ h
      · rw [if_neg c5] at h
        refine .condF rfl (df c5) <| .exit rfl <| .keepL [] [(4, u6 x1)] [] (by decide) (by decide) ⟨.free rfl rfl, trivial⟩ trivial ?_
        exact hx1 _ h
def r03_Inside.f (a0 : Int) (a1 : Int) (r : Bool) : Prop :=
  ∃ t2_1 : Int × Int, (r01_Full.f a0 t2_1) ∧ r = ((bitOp .andNot .u64 a1 t2_1.1) == 0)
theorem r03_Inside.D {a0 a1 r} (h : r03_Inside.f a0 a1 r) : D Tryz.prog X (.callH 117 [.val (.int .i64 a0), .val (.int .u64 a1)] [] (.val (.bool r)) []) := by
  unfold r03_Inside.f at h
  refine .enter 16 0 fn117 rfl rfl rfl <| .seq <| .reg0 rfl (.op 0 rfl (asV rfl) <| .nil0) <| .seq ?_
  obtain ⟨t2_1, g2_1, h⟩ := h
  refine .reg0 rfl (.m rfl <| .c rfl go127 rfl rfl rfl (r01_Full.D g2_1) <| .o (mvT rfl) <| .o (exT rfl rfl) <| .o (exT rfl rfl) <| .a rfl <| .a rfl <| .nil0) <| .seq <| .reg0 rfl (.op 0 rfl (mvV rfl) <| .op 0 rfl (mvV rfl) <| .op 0 rfl (andNotI rfl rfl) <| .op 0 rfl (eqI rfl rfl) <| .op 0 rfl (asV rfl) <| .nil0) ?_
  replace h := h.symm
  subst h
  refine .kf [(4, bo ((bitOp .andNot .u64 a1 t2_1.1) == 0))] rfl rfl ?_
  exact .ret rfl
def r03_shape.b1 (a0 : Int) (a1 : TFacts) : Int → Rnd Int Unit Bool → Prop := fun x1 z1 => if x1 < a0 then (((InR x1 a1.Rows.length)) ∧ ∃ t14_6 : Bool, (r03_Inside.f a0 (rdl a1.Rows x1) t14_6) ∧ if t14_6 = true then (z1 = .next (IntKind.i64.wrap (x1 + 1))) else (z1 = .ret false)) else (z1 = .exit ())
def r03_shape.f (a0 : Int) (a1 : TFacts) (r : Bool) : Prop :=
  ∃ t2_9 : Bool, (((a1.Rows.length : Int) = a0) → r03_Inside.f a0 a1.Gen t2_9) ∧ if ((!((a1.Rows.length : Int) == a0)) || (!t2_9)) = true then (r = false) else (∃ o1 : Fin Unit Bool, Loop (r03_shape.b1 a0 a1) 0 o1 ∧ o1.on (fun _ => r = true) (fun r_ => r = r_))
theorem r03_shape.D {a0 a1 r} (h : r03_shape.f a0 a1 r) : D Tryz.prog X (.callH 116 [.val (.int .i64 a0), .agg (TFacts.lit a1)] [] (.val (.bool r)) []) := by
  unfold r03_shape.f at h
  refine .enter 31 0 fn116 rfl rfl rfl <| .seq <| .room 0 <| .reg0 rfl (.op 0 rfl (bxP (s := 2) (cs := (TFacts.lit a1)) rfl ⟨rfl, by decide, rfl⟩ rfl) <| .op 0 rfl (asV rfl) <| .nil0) <| .seq <| .seq ?_
  obtain ⟨t2_9, g2_9, h⟩ := h
  refine .reg0 (e1 := listEnv [(0, i6 a0), (3, .ptr 0 1 2 0 0), (17, bo ((!((a1.Rows.length : Int) == a0)) || (!t2_9)))]) (H1 := [⟨2, [(TFacts.lit a1)], 0, none⟩]) rfl ?_ ?_
  · refine .o (faP fa35_1 rfl) <| .o (ldP rfl sz33 ag33 rfl) <| .o (lnR (l := a1.Rows) sl33 rfl) <| .m rfl <| .o (neI rfl rfl) <| .m rfl <| ?_
    by_cases c1 : (a1.Rows.length : Int) = a0
    · exact (.g rfl (nf c1) (mvV rfl) <| .g rfl (nf c1) (faP fa35_0 rfl) <| .g rfl (nf c1) (ldP rfl sz32 ag32 rfl) <| .callI (gT rfl rfl rfl (nf c1)) (callee_of rfl go117 rfl) (.pure rfl rfl (r03_Inside.D (g2_9 c1))) <| .g rfl (nf c1) (notB rfl) <| .o (pkFV rfl (nf c1) rfl) <| .nilL _ ⟨.free rfl rfl, .ptr rfl, cB rfl (mOrF (bnotF (bt c1)) rfl), trivial⟩)
    · exact (.n rfl (nt c1) <| .n rfl (nt c1) <| .n rfl (nt c1) <| .n rfl (nt c1) <| .n rfl (nt c1) <| .o (pkTV rfl (nt c1) rfl) <| .nilL _ ⟨.free rfl rfl, .ptr rfl, cB rfl (mOrT (bnotT (bn c1))), trivial⟩)
  by_cases c2 : ((!((a1.Rows.length : Int) == a0)) || (!t2_9)) = true
  · rw [if_pos c2] at h
    refine .condT rfl c2 <| .seq <| .reg0 rfl (.op 0 rfl (asV rfl) <| .nil0) ?_
    replace h := h.symm
    subst h
    refine .kf [(4, bo false)] rfl rfl ?_
    exact .ret rfl
  · rw [if_neg c2] at h
    refine .condF rfl (nb c2) <| .skip <| .seq <| .seq <| .reg0 rfl (.op 0 rfl (asV rfl) <| .nil0) <| .block <| .keepL [0] [(0, i6 a0), (3, .ptr 0 1 2 0 0), (5, i6 0)] [⟨2, [(TFacts.lit a1)], 0, none⟩] (by decide) (by decide) ⟨.free rfl rfl, .ptr rfl, .free rfl rfl, trivial⟩ ⟨⟨_, rfl, bcBox (all2_free rfl)⟩, trivial⟩ ?_
    obtain ⟨o1, hL1, h⟩ := h
    refine .loopB (r03_shape.b1 a0 a1) (fun x1 => listEnv [(0, i6 a0), (3, .ptr 0 1 2 0 0), (5, i6 x1)]) (fun x1 => [⟨2, [(TFacts.lit a1)], 0, none⟩]) (fun _ => listEnv []) (fun _ => []) hL1 (fun r_ => r = r_) ?_ ?_ ?_
    · rintro ⟨⟩ rfl
      try dsimp only [Fin.on] at h
      refine .seq <| .reg0 rfl (.op 0 rfl (asV rfl) <| .nil0) ?_
      replace h := h.symm
      subst h
      refine .kf [(4, bo true)] rfl rfl ?_
      exact .ret rfl
    · rintro r_ rfl
      exact h
    · rintro x1 z1 h hn1 hx1 hr1
      dsimp only [r03_shape.b1] at h
      refine .seq <| .seq <| .reg0 rfl (.op 0 rfl (mvV rfl) <| .op 0 rfl (mvV rfl) <| .op 0 rfl (ltI rfl rfl) <| .nil0) ?_
      by_cases c7 : x1 < a0
      · rw [if_pos c7] at h
        refine .condT rfl (dt c7) <| .skip <| .seq <| .block <| .seq ?_
        obtain ⟨g14_4, h⟩ := h
        obtain ⟨t14_6, g14_6, h⟩ := h
        refine .reg0 rfl (.m rfl <| .o (faP fa35_1 rfl) <| .o (ldP rfl sz33 ag33 rfl) <| .m rfl <| .o (ixR (l := a1.Rows) (lit := (cInt .u64)) sl33 rfl rfl (fun _ => rfl) g14_4.1 g14_4.2) <| .o (ldC rfl sz32 ag32 rfl) <| .c rfl go117 rfl rfl rfl (r03_Inside.D g14_6) <| .o (notB rfl) <| .nil0) ?_
        by_cases c8 : t14_6 = true
        · rw [if_pos c8] at h
          refine .condF rfl (bnotF c8) <| .skip <| .inBlock <| .reg0 rfl (.op 0 rfl (mvV rfl) <| .op 0 rfl (addI rfl rfl) <| .op 0 rfl (asV rfl) <| .nil0) <| .keepL [0] [(0, i6 a0), (3, .ptr 0 1 2 0 0), (5, i6 (IntKind.i64.wrap (x1 + 1)))] [⟨2, [(TFacts.lit a1)], 0, none⟩] (by decide) (by decide) ⟨.free rfl rfl, .ptr rfl, .free rfl rfl, trivial⟩ ⟨⟨_, rfl, bcBox (all2_free rfl)⟩, trivial⟩ ?_
          exact hn1 _ h
        · rw [if_neg c8] at h
          refine .condT rfl (bnotT (nb c8)) <| .seq <| .reg0 rfl (.op 0 rfl (asV rfl) <| .nil0) ?_
          have q3 := hr1 _ h
          replace q3 := q3.symm
          subst q3
          refine .kf [(4, bo false)] rfl rfl ?_
          exact .ret rfl
      · rw [if_neg c7] at h
        refine .condF rfl (df c7) <| .exit rfl <| .keepL [] [] [] (by decide) (by decide) trivial trivial ?_
        exact hx1 _ h
def r03_canon.b1 (a0 : TFacts) : ((List Int) × Int) → Rnd (((List Int) × Int)) ((List Int)) TFacts → Prop := fun (x2, x3) z1 => if x3 < (a0.Rows.length : Int) then (((InR x3 a0.Rows.length)) ∧ ((Fits (x2.length + 1) 8)) ∧ z1 = .next ((x2 ++ [(bitOp .andNot .u64 (rdl a0.Rows x3) a0.Gen)]), (IntKind.i64.wrap (x3 + 1)))) else (z1 = .exit x2)
def r03_canon.f (a0 : TFacts) (r : TFacts) : Prop :=
  ∃ o1 : Fin ((List Int)) TFacts, Loop (r03_canon.b1 a0) ([], 0) o1 ∧ o1.on (fun x4 => r = (TFacts.mk a0.Gen x4)) (fun r_ => r = r_)
theorem r03_canon.D {a0 r} (h : r03_canon.f a0 r) : D Tryz.prog X (.callH 85 [.agg (TFacts.lit a0)] [] (.agg (TFacts.lit r)) []) := by
  unfold r03_canon.f at h
  refine .enter 29 0 fn85 rfl rfl rfl <| .seq <| .room 0 <| .room 0 <| .reg0 rfl (.op 0 rfl (bxP (s := 2) (cs := (TFacts.lit a0)) rfl ⟨rfl, by decide, rfl⟩ rfl) <| .op 1 rfl (alP (s := 2) ze35 ⟨rfl, by decide, rfl⟩ rfl) <| .nil0) <| .seq <| .room 0 <| .reg0 rfl (.op 0 rfl (faP fa35_0 rfl) <| .op 0 rfl (ldP rfl sz32 ag32 rfl) <| .op 0 rfl (bldS (cs := [u6 a0.Gen, nul]) ze35 pl35 rfl rfl) <| .op 2 rfl (alP (s := 2) ze35 ⟨rfl, by decide, rfl⟩ rfl) <| .op 0 rfl (stB (cs0 := [u6 0, nul]) (cs := [u6 a0.Gen, nul]) (cs1 := [u6 a0.Gen, nul]) rfl rfl sz35 rfl ⟨Nat.le_of_ble_eq_true rfl, rfl⟩ rfl) <| .nil0) ?_
  refine .seq <| .seq <| .reg0 rfl (.op 0 rfl (asV rfl) <| .nil0) <| .block <| .room 1 <| .keepL [0, 1, 2, 3] [(1, .ptr 0 1 2 0 0), (2, .ptr 1 1 2 0 0), (3, .ptr 2 1 2 0 0), (4, i6 0)] [⟨2, [(TFacts.lit a0)], 0, none⟩, ⟨2, [[u6 0, nul]], 0, none⟩, ⟨2, [[u6 a0.Gen, .own 3 0]], 0, none⟩, ⟨1, [].map (cInt .u64), 0, none⟩] (by decide) (by decide) ⟨.ptr rfl, .ptr rfl, .ptr rfl, .free rfl rfl, trivial⟩ ⟨⟨_, rfl, bcBox (all2_free rfl)⟩, ⟨_, rfl, bcBox (all2_free rfl)⟩, ⟨_, rfl, bcBox (.cons (.free rfl rfl) <| .cons (.nilOwn) <| .nil)⟩, ⟨_, rfl, (bcRow (l := []) sl33 (Nat.le_refl _) rfl)⟩, trivial⟩ ?_
  obtain ⟨o1, hL1, h⟩ := h
  refine .loopB (r03_canon.b1 a0) (fun (x2, x3) => listEnv [(1, .ptr 0 1 2 0 0), (2, .ptr 1 1 2 0 0), (3, .ptr 2 1 2 0 0), (4, i6 x3)]) (fun (x2, x3) => [⟨2, [(TFacts.lit a0)], 0, none⟩, ⟨2, [[u6 0, nul]], 0, none⟩, ⟨2, [[u6 a0.Gen, .own 3 x2.length]], 0, none⟩, ⟨1, x2.map (cInt .u64), 0, none⟩]) (fun x4 => listEnv [(2, .ptr 0 1 2 0 0), (3, .ptr 1 1 2 0 0)]) (fun x4 => [⟨2, [[u6 0, nul]], 0, none⟩, ⟨2, [[u6 a0.Gen, .own 2 x4.length]], 0, none⟩, ⟨1, x4.map (cInt .u64), 0, none⟩]) hL1 (fun r_ => r = r_) ?_ ?_ ?_
  · rintro x4 rfl
    try dsimp only [Fin.on] at h
    refine .seq <| .reg0 rfl (.op 0 rfl (ldG rfl sz35 ag35 rfl) <| .op 0 rfl (stB (cs0 := [u6 0, nul]) (cs := [u6 a0.Gen, .own 2 x4.length]) (cs1 := [u6 a0.Gen, .own 2 x4.length]) rfl rfl sz35 rfl ⟨Nat.le_of_ble_eq_true rfl, rfl⟩ rfl) <| .nil0) ?_
    replace h := h.symm
    subst h
    refine .k [(2, .cptr [u6 a0.Gen, .rows (x4.map (cInt .u64))] 0)] ⟨cFixP rfl rfl (.cons (.free rfl rfl) <| .cons (cFixO (l := x4) sl33 rfl rfl rfl rfl) <| .nil), trivial⟩ ?_
    exact .ret rfl
  · rintro r_ rfl
    exact h
  · rintro ⟨x2, x3⟩ z1 h hn1 hx1 hr1
    dsimp only [r03_canon.b1] at h
    refine .seq <| .seq <| .reg0 rfl (.op 0 rfl (mvV rfl) <| .op 0 rfl (faP fa35_1 rfl) <| .op 0 rfl (ldP rfl sz33 ag33 rfl) <| .op 0 rfl (lnR (l := a0.Rows) sl33 rfl) <| .op 0 rfl (ltI rfl rfl) <| .nil0) ?_
    by_cases c3 : x3 < (a0.Rows.length : Int)
    · rw [if_pos c3] at h
      refine .condT rfl (dt c3) <| .skip <| .seq <| .block ?_
      obtain ⟨g11_5, h⟩ := h
      obtain ⟨g11_11, h⟩ := h
      refine .room 0 <| .room 0 ?_
      refine .reg1 (e1 := listEnv [(1, .ptr 0 1 2 0 0), (2, .ptr 1 1 2 0 0), (3, .ptr 2 1 2 0 0), (4, i6 x3)]) (H1 := [⟨2, [(TFacts.lit a0)], 0, none⟩, ⟨2, [[u6 0, nul]], 0, none⟩, ⟨2, [[u6 a0.Gen, .own 3 ((x2 ++ [(bitOp .andNot .u64 (rdl a0.Rows x3) a0.Gen)]).length)]], 0, none⟩, ⟨1, (x2 ++ [(bitOp .andNot .u64 (rdl a0.Rows x3) a0.Gen)]).map (cInt .u64), 0, none⟩, ⟨1, [(bitOp .andNot .u64 (rdl a0.Rows x3) a0.Gen)].map (cInt .u64), 0, none⟩, Blk.hole]) rfl ?_ ?_
      · exact .drawM [(12, 27, .ptr 2 1 2 0 1), (11, 26, .own 3 ((x2 ++ [(bitOp .andNot .u64 (rdl a0.Rows x3) a0.Gen)]).length)), (10, 25, .own 4 ([(bitOp .andNot .u64 (rdl a0.Rows x3) a0.Gen)].length)), (9, 24, u6 (bitOp .andNot .u64 (rdl a0.Rows x3) a0.Gen)), (8, 23, u6 a0.Gen), (7, 22, .ptr 0 1 2 0 0), (6, 21, u6 (rdl a0.Rows x3)), (5, 20, .cptr ((cInt .u64) (rdl a0.Rows x3)) 0), (4, 19, i6 x3), (3, 18, .rows (a0.Rows.map (cInt .u64))), (2, 17, .ptr 0 1 2 0 1), (1, 16, .own 3 x2.length), (0, 15, .ptr 2 1 2 0 1)] [(13, 2, ⟨2, [[u6 a0.Gen, .own 3 ((x2 ++ [(bitOp .andNot .u64 (rdl a0.Rows x3) a0.Gen)]).length)]], 0, none⟩), (11, 3, ⟨1, (x2 ++ [(bitOp .andNot .u64 (rdl a0.Rows x3) a0.Gen)]).map (cInt .u64), 0, none⟩), (10, 4, ⟨1, [(bitOp .andNot .u64 (rdl a0.Rows x3) a0.Gen)].map (cInt .u64), 0, none⟩)] [[], [0], [], [2], [], [3, 2, 4], [5, 3, 2, 4], [], [7], [6, 5, 3, 2, 4, 8, 7], [9, 6, 5, 3, 2, 4, 8, 7], [1, 0, 10, 9, 6, 5, 3, 2, 4, 8, 7], [0, 1, 2, 3, 4, 5, 6, 7, 8, 9, 10, 11], [12, 0, 1, 2, 3, 4, 5, 6, 7, 8, 9, 10, 11]] (by rfl) (by rfl) (by rfl) (by exact ⟨oP (fun _ => faP fa35_1 rfl) rfl, oP (fun _ => ldP rfl sz33 ag33 rfl) rfl, oP (fun _ => faP fa35_1 rfl) rfl, oP (fun _ => ldP rfl sz33 ag33 rfl) rfl, oP (fun _ => mvV rfl) rfl, oP (fun _ => ixR (l := a0.Rows) (lit := (cInt .u64)) sl33 rfl rfl (fun _ => rfl) g11_5.1 g11_5.2) rfl, oP (fun _ => ldC rfl sz32 ag32 rfl) rfl, oP (fun _ => faP fa35_0 rfl) rfl, oP (fun _ => ldP rfl sz32 ag32 rfl) rfl, oP (fun _ => andNotI rfl rfl) rfl, oW 4 (fun _ => bldL (s := 1) (cs := [u6 (bitOp .andNot .u64 (rdl a0.Rows x3) a0.Gen)]) un33 sz32 ze32 ⟨by decide, rfl, by decide⟩ rfl rfl rfl rfl) rfl fun _ => rfl, oW 0 (fun _ => ap1 (l := x2) (bitOp .andNot .u64 (rdl a0.Rows x3) a0.Gen) sl33 rfl rfl rfl (Nat.zero_le _) (elems_own (l := [(bitOp .andNot .u64 (rdl a0.Rows x3) a0.Gen)]) rfl rfl) g11_11) rfl fun _ => rfl, oP (fun _ => faP fa35_1 rfl) rfl, fun S hS hD hn => .one0 0 rfl rfl (stB (cs0 := [u6 a0.Gen, .own 3 x2.length]) (cs := [.own 3 ((x2 ++ [(bitOp .andNot .u64 (rdl a0.Rows x3) a0.Gen)]).length)]) (cs1 := [u6 a0.Gen, .own 3 ((x2 ++ [(bitOp .andNot .u64 (rdl a0.Rows x3) a0.Gen)]).length)]) rfl rfl sz33 rfl ⟨Nat.le_of_ble_eq_true rfl, rfl⟩ rfl) (drawE_other _ _ _ _ rfl) rfl, trivial⟩) _ (by exact ⟨.ptr rfl, .ptr rfl, .ptr rfl, .free rfl rfl, trivial⟩) (by rfl)
      refine .inBlock <| .reg0 rfl (.op 0 rfl (mvV rfl) <| .op 0 rfl (addI rfl rfl) <| .op 0 rfl (asV rfl) <| .nil0) <| .keepL [0, 1, 2, 3] [(1, .ptr 0 1 2 0 0), (2, .ptr 1 1 2 0 0), (3, .ptr 2 1 2 0 0), (4, i6 (IntKind.i64.wrap (x3 + 1)))] [⟨2, [(TFacts.lit a0)], 0, none⟩, ⟨2, [[u6 0, nul]], 0, none⟩, ⟨2, [[u6 a0.Gen, .own 3 ((x2 ++ [(bitOp .andNot .u64 (rdl a0.Rows x3) a0.Gen)]).length)]], 0, none⟩, ⟨1, (x2 ++ [(bitOp .andNot .u64 (rdl a0.Rows x3) a0.Gen)]).map (cInt .u64), 0, none⟩] (by decide) (by decide) ⟨.ptr rfl, .ptr rfl, .ptr rfl, .free rfl rfl, trivial⟩ ⟨⟨_, rfl, bcBox (all2_free rfl)⟩, ⟨_, rfl, bcBox (all2_free rfl)⟩, ⟨_, rfl, bcBox (.cons (.free rfl rfl) <| .cons (.own rfl) <| .nil)⟩, ⟨_, rfl, bcRow (l := (x2 ++ [(bitOp .andNot .u64 (rdl a0.Rows x3) a0.Gen)])) sl33 (Nat.le_refl _) rfl⟩, trivial⟩ ?_
      exact hn1 _ h
    · rw [if_neg c3] at h
      refine .condF rfl (df c3) <| .exit rfl <| .keepL [1, 2, 3] [(2, .ptr 0 1 2 0 0), (3, .ptr 1 1 2 0 0)] [⟨2, [[u6 0, nul]], 0, none⟩, ⟨2, [[u6 a0.Gen, .own 2 x2.length]], 0, none⟩, ⟨1, x2.map (cInt .u64), 0, none⟩] (by decide) (by decide) ⟨.ptr rfl, .ptr rfl, trivial⟩ ⟨⟨_, rfl, bcBox (all2_free rfl)⟩, ⟨_, rfl, bcBox (.cons (.free rfl rfl) <| .cons (.own rfl) <| .nil)⟩, ⟨_, rfl, bcRow (l := x2) sl33 (Nat.le_refl _) rfl⟩, trivial⟩ ?_
      exact hx1 _ h
end Go.RM.Tryz
