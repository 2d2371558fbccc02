/- GL, for the statement StepsBoth: what it needs, no more. -/
import Derived.Test.YtkcmehgfndfbhaaGreatDoorZStepsBothGI
set_option linter.unusedVariables false
set_option maxRecDepth 8000
set_option maxHeartbeats 4000000
namespace Go.RM.Tryz
open Go.RM Go.Proofs
def l12_among.b1 (a0 : List Int) (a1 : List TConf) (a2 : Int) (a3 : TConf) : Int → Rnd Int Unit Bool → Prop := fun x1 z1 => if ((decide (x1 < (a0.length : Int))) && (decide (x1 < (a1.length : Int)))) = true then (((InR x1 a0.length)) ∧ (((rdl a0 x1) = a2) → (InR x1 a1.length)) ∧ ∃ t12_12 : Bool, (((rdl a0 x1) = a2) → r12_Same.f (rdl a1 x1) a3 t12_12) ∧ if (((rdl a0 x1) == a2) && t12_12) = true then (z1 = .ret true) else (z1 = .next (IntKind.i64.wrap (x1 + 1)))) else (z1 = .exit ())
def l12_among.f (a0 : List Int) (a1 : List TConf) (a2 : Int) (a3 : TConf) (r : Bool) : Prop :=
  ∃ o1 : Fin Unit Bool, Loop (l12_among.b1 a0 a1 a2 a3) 0 o1 ∧ o1.on (fun _ => r = false) (fun r_ => r = r_)
abbrev GL_A0 : List (List Nat) := [[], [], [0, 1], [2, 0, 1], [], [3, 2, 0, 1, 4], [5, 3, 2, 0, 1, 4], [6, 5, 3, 2, 0, 1, 4], [6, 5, 3, 2, 0, 1, 4], [7, 6, 5, 3, 2, 0, 1, 4, 8], [9, 7, 6, 5, 3, 2, 0, 1, 4, 8], [6, 5, 3, 2, 0, 1, 4], [10, 9, 7, 6, 5, 3, 2, 0, 1, 4, 8, 11], [6, 5, 3, 2, 0, 1, 4, 12, 10, 9, 7, 8, 11]]
theorem l12_among.D {a0 a1 a2 a3 r} (h : l12_among.f a0 a1 a2 a3 r) : D Tryz.prog X (.callH 22 [.rows (a0.map (cInt .i64)), .rows (a1.map TConf.cells), .val (.int .i64 a2), .agg (TConf.lit a3)] [] (.val (.bool r)) []) := by
  unfold l12_among.f at h
  refine .enter 36 0 fn22 rfl rfl rfl <| .seq <| .room 0 <| .reg0 rfl (.op 0 rfl (bxP (s := 2) (cs := (TConf.lit a3)) rfl ⟨rfl, by decide, rfl⟩ rfl) <| .op 0 rfl (asV rfl) <| .nil0) <| .seq <| .seq <| .reg0 rfl (.op 0 rfl (asV rfl) <| .nil0) <| .block <| .keepL [0] [(0, .rows (a0.map (cInt .i64))), (1, .rows (a1.map TConf.cells)), (2, i6 a2), (7, .ptr 0 1 2 0 0), (9, i6 0)] [⟨2, [(TConf.lit a3)], 0, none⟩] (by decide) (by decide) ⟨.free rfl rfl, .free rfl rfl, .free rfl rfl, .ptr rfl, .free rfl rfl, trivial⟩ ⟨⟨_, rfl, bcBox (all2_free rfl)⟩, trivial⟩ ?_
  obtain ⟨o1, hL1, h⟩ := h
  refine .loopB (l12_among.b1 a0 a1 a2 a3) (fun x1 => listEnv [(0, .rows (a0.map (cInt .i64))), (1, .rows (a1.map TConf.cells)), (2, i6 a2), (7, .ptr 0 1 2 0 0), (9, i6 x1)]) (fun x1 => [⟨2, [(TConf.lit a3)], 0, none⟩]) (fun _ => listEnv []) (fun _ => []) hL1 (fun r_ => r = r_) ?_ ?_ ?_
  · rintro ⟨⟩ rfl
    try dsimp only [Fin.on] at h
    refine .seq <| .reg0 rfl (.op 0 rfl (asV rfl) <| .nil0) ?_
    replace h := h.symm
    subst h
    refine .kf [(8, bo false)] rfl rfl ?_
    exact .ret rfl
  · rintro r_ rfl
    exact h
  · rintro x1 z1 h hn1 hx1 hr1
    dsimp only [l12_among.b1] at h
    refine .seq <| .seq ?_
    refine .reg0 (e1 := listEnv [(0, .rows (a0.map (cInt .i64))), (1, .rows (a1.map TConf.cells)), (2, i6 a2), (7, .ptr 0 1 2 0 0), (9, i6 x1), (19, bo ((decide (x1 < (a0.length : Int))) && (decide (x1 < (a1.length : Int)))))]) (H1 := [⟨2, [(TConf.lit a3)], 0, none⟩]) rfl ?_ ?_
    · refine .m rfl <| .o (mvR rfl) <| .o (lnR (l := a0) sl29 rfl) <| .o (ltI rfl rfl) <| .m rfl <| ?_
      by_cases c9 : x1 < (a0.length : Int)
      · exact (.g rfl (dt c9) (mvV rfl) <| .g rfl (dt c9) (mvR rfl) <| .g rfl (dt c9) (lnR (l := a1) sl51 rfl) <| .g rfl (dt c9) (ltI rfl rfl) <| .o (pkTV rfl (dt c9) rfl) <| .nilL _ ⟨.free rfl rfl, .free rfl rfl, .free rfl rfl, .ptr rfl, .free rfl rfl, cB rfl (mAndT (dt c9) rfl), trivial⟩)
      · exact (.n rfl (df c9) <| .n rfl (df c9) <| .n rfl (df c9) <| .n rfl (df c9) <| .o (pkFV rfl (df c9) rfl) <| .nilL _ ⟨.free rfl rfl, .free rfl rfl, .free rfl rfl, .ptr rfl, .free rfl rfl, cB rfl (mAndF (df c9)), trivial⟩)
    by_cases c10 : ((decide (x1 < (a0.length : Int))) && (decide (x1 < (a1.length : Int)))) = true
    · rw [if_pos c10] at h
      refine .condT rfl c10 <| .skip <| .seq <| .block <| .seq ?_
      obtain ⟨g12_2, h⟩ := h
      obtain ⟨g12_9, h⟩ := h
      obtain ⟨t12_12, g12_12, h⟩ := h
      refine .reg1 (e1 := listEnv [(0, .rows (a0.map (cInt .i64))), (1, .rows (a1.map TConf.cells)), (2, i6 a2), (7, .ptr 0 1 2 0 0), (9, i6 x1), (35, bo (((rdl a0 x1) == a2) && t12_12))]) (H1 := [⟨2, [(TConf.lit a3)], 0, none⟩]) rfl ?_ ?_
      · by_cases c11 : (rdl a0 x1) = a2
        · exact .drawM [(13, 35, bo t12_12), (12, 34, bo t12_12), (11, 33, .agg (TConf.lit a3)), (10, 32, .agg (TConf.lit (rdl a1 x1))), (9, 31, .cptr (TConf.lit (rdl a1 x1)) 0), (8, 30, i6 x1), (7, 29, .rows (a1.map TConf.cells)), (6, 28, bo ((rdl a0 x1) == a2)), (5, 27, bo ((rdl a0 x1) == a2)), (4, 26, i6 a2), (3, 25, i6 (rdl a0 x1)), (2, 24, .cptr ((cInt .i64) (rdl a0 x1)) 0), (1, 23, i6 x1), (0, 22, .rows (a0.map (cInt .i64)))] [] GL_A0 (by rfl) (by rfl) (by rfl) (by exact ⟨oP (fun _ => mvR rfl) rfl, oP (fun _ => mvV rfl) rfl, oP (fun _ => ixR (l := a0) (lit := (cInt .i64)) sl29 rfl rfl (fun _ => rfl) g12_2.1 g12_2.2) rfl, oP (fun _ => ldC rfl sz3 ag3 rfl) rfl, oP (fun _ => mvV rfl) rfl, oP (fun _ => eqI rfl rfl) rfl, oP (fun _ => mvV rfl) rfl, oG rfl (fun _ => rfl) (bt c11) (fun _ => mvR rfl) rfl, oG rfl (fun _ => rfl) (bt c11) (fun _ => mvV rfl) rfl, oG rfl (fun _ => rfl) (bt c11) (fun _ => ixR (l := a1) (lit := TConf.lit) sl51 rfl rfl (fun _ => rfl) (g12_9 c11).1 (g12_9 c11).2) rfl, oG rfl (fun _ => rfl) (bt c11) (fun _ => ldCG rfl sz31 ag31 rfl) rfl, oG rfl (fun _ => rfl) (bt c11) (fun _ => ldG rfl sz31 ag31 rfl) rfl, fun S hS hD hn => .oneI hS hD hn (gT rfl rfl rfl (bt c11)) rfl (callee_of rfl go10 rfl) (.pure rfl rfl (r12_Same.D (g12_12 c11))) rfl rfl rfl, oP (fun _ => pkTV rfl (bt c11) rfl) rfl, trivial⟩) _ (by exact ⟨.free rfl rfl, .free rfl rfl, .free rfl rfl, .ptr rfl, .free rfl rfl, cB rfl (mAndT (bt c11) rfl), trivial⟩) (by rfl)
        · exact .drawM [(13, 35, bo false), (12, 34, und), (11, 33, und), (10, 32, und), (9, 31, und), (8, 30, und), (7, 29, und), (6, 28, bo ((rdl a0 x1) == a2)), (5, 27, bo ((rdl a0 x1) == a2)), (4, 26, i6 a2), (3, 25, i6 (rdl a0 x1)), (2, 24, .cptr ((cInt .i64) (rdl a0 x1)) 0), (1, 23, i6 x1), (0, 22, .rows (a0.map (cInt .i64)))] [] GL_A0 (by rfl) (by rfl) (by rfl) (by exact ⟨oP (fun _ => mvR rfl) rfl, oP (fun _ => mvV rfl) rfl, oP (fun _ => ixR (l := a0) (lit := (cInt .i64)) sl29 rfl rfl (fun _ => rfl) g12_2.1 g12_2.2) rfl, oP (fun _ => ldC rfl sz3 ag3 rfl) rfl, oP (fun _ => mvV rfl) rfl, oP (fun _ => eqI rfl rfl) rfl, oP (fun _ => mvV rfl) rfl, oN rfl (fun _ => rfl) (bn c11) rfl, oN rfl (fun _ => rfl) (bn c11) rfl, oN rfl (fun _ => rfl) (bn c11) rfl, oN rfl (fun _ => rfl) (bn c11) rfl, oN rfl (fun _ => rfl) (bn c11) rfl, oN rfl (fun _ => rfl) (bn c11) rfl, oP (fun _ => pkFV rfl (bn c11) rfl) rfl, trivial⟩) _ (by exact ⟨.free rfl rfl, .free rfl rfl, .free rfl rfl, .ptr rfl, .free rfl rfl, cB rfl (mAndF (bn c11)), trivial⟩) (by rfl)
      by_cases c12 : (((rdl a0 x1) == a2) && t12_12) = true
      · rw [if_pos c12] at h
        refine .condT rfl c12 <| .seq <| .reg0 rfl (.op 0 rfl (asV rfl) <| .nil0) ?_
        have q3 := hr1 _ h
        replace q3 := q3.symm
        subst q3
        refine .kf [(8, bo true)] rfl rfl ?_
        exact .ret rfl
      · rw [if_neg c12] at h
        refine .condF rfl (nb c12) <| .skip <| .inBlock <| .reg0 rfl (.op 0 rfl (mvV rfl) <| .op 0 rfl (addI rfl rfl) <| .op 0 rfl (asV rfl) <| .nil0) <| .keepL [0] [(0, .rows (a0.map (cInt .i64))), (1, .rows (a1.map TConf.cells)), (2, i6 a2), (7, .ptr 0 1 2 0 0), (9, i6 (IntKind.i64.wrap (x1 + 1)))] [⟨2, [(TConf.lit a3)], 0, none⟩] (by decide) (by decide) ⟨.free rfl rfl, .free rfl rfl, .free rfl rfl, .ptr rfl, .free rfl rfl, trivial⟩ ⟨⟨_, rfl, bcBox (all2_free rfl)⟩, trivial⟩ ?_
        exact hn1 _ h
    · rw [if_neg c10] at h
      refine .condF rfl (nb c10) <| .exit rfl <| .keepL [] [] [] (by decide) (by decide) trivial trivial ?_
      exact hx1 _ h
def l12_StepsBoth.j1 (x1 : Int) : Unit → (Rnd Int Unit Bool) → Prop := fun _ z1 => z1 = .next (IntKind.i64.wrap (x1 + 1))
def l12_StepsBoth.b1 (a0 : TPds) (a1 : TConf) (t3_2 : (List Int) × (List TConf) × Int) : Int → Rnd Int Unit Bool → Prop := fun x1 z1 => if ((decide (x1 < (t3_2.1.length : Int))) && (decide (x1 < 50))) = true then (((InR x1 t3_2.2.1.length)) ∧ ∃ t33_5 : (List Int) × (List TConf) × Int, (steps_Back.f a0 (rdl t3_2.2.1 x1) t33_5) ∧ if t33_5.2.2 = 2 then (l12_StepsBoth.j1 x1 () z1) else (((t33_5.2.2 = 0) → (InR x1 t3_2.1.length)) ∧ ∃ t35_10 : Bool, ((t33_5.2.2 = 0) → l12_among.f t33_5.1 t33_5.2.1 (rdl t3_2.1 x1) a1 t35_10) ∧ if ((!(t33_5.2.2 == 0)) || (!t35_10)) = true then (z1 = .ret false) else (l12_StepsBoth.j1 x1 () z1))) else (z1 = .exit ())
def l12_StepsBoth.b2 (a0 : TPds) (a1 : TConf) (t37_2 : (List Int) × (List TConf) × Int) : Int → Rnd Int Unit Bool → Prop := fun x2 z2 => if ((decide (x2 < (t37_2.1.length : Int))) && (decide (x2 < 50))) = true then (((InR x2 t37_2.2.1.length)) ∧ ∃ t51_5 : (List Int) × (List TConf) × Int, (steps_Next.f a0 (rdl t37_2.2.1 x2) t51_5) ∧ (¬ (t51_5.2.2 = 2) → (t51_5.2.2 = 0) → (InR x2 t37_2.1.length)) ∧ ∃ t52_13 : Bool, (¬ (t51_5.2.2 = 2) → (t51_5.2.2 = 0) → l12_among.f t51_5.1 t51_5.2.1 (rdl t37_2.1 x2) a1 t52_13) ∧ if ((!(t51_5.2.2 == 2)) && ((!(t51_5.2.2 == 0)) || (!t52_13))) = true then (z2 = .ret false) else (z2 = .next (IntKind.i64.wrap (x2 + 1)))) else (z2 = .exit ())
def l12_StepsBoth.f (a0 : TPds) (a1 : TConf) (a2 : Int) (r : Bool) : Prop :=
  ∃ t2_0 : Bool, (l12_awake.f t2_0) ∧ if t2_0 = true then (∃ t3_2 : (List Int) × (List TConf) × Int, (steps_Next.f a0 a1 t3_2) ∧ if t3_2.2.2 = 0 then (if (t3_2.1.length : Int) = (t3_2.2.1.length : Int) then (∃ o1 : Fin Unit Bool, Loop (l12_StepsBoth.b1 a0 a1 t3_2) 0 o1 ∧ o1.on (fun _ => ∃ t37_2 : (List Int) × (List TConf) × Int, (steps_Back.f a0 a1 t37_2) ∧ if t37_2.2.2 = 0 then (∃ o2 : Fin Unit Bool, Loop (l12_StepsBoth.b2 a0 a1 t37_2) 0 o2 ∧ o2.on (fun _ => ∃ t55_11 : Int, (¬ (a2 < 0) → ¬ (a2 ≥ (a0.Rules.length : Int)) → r11_Check.f a0 t55_11) ∧ r = ((decide (a2 < 0)) || ((decide (a2 ≥ (a0.Rules.length : Int))) || (t55_11 == 0)))) (fun r_ => r = r_)) else (r = (t37_2.2.2 == 2))) (fun r_ => r = r_)) else (r = false)) else (r = ((IntKind.i64.wrap ((t3_2.1.length : Int) + (t3_2.2.1.length : Int))) == 0))) else (r = false)
abbrev GL_A1 : List (List Nat) := [[], [], [], [1, 2], [3, 1, 2], [0, 4, 3, 1, 2], [5, 0, 4, 3, 1, 2], [6, 5, 0, 4, 3, 1, 2], [6, 5, 0, 4, 3, 1, 2], [6, 5, 0, 4, 3, 1, 2], [7, 6, 5, 0, 4, 3, 1, 2], [8, 6, 5, 0, 4, 3, 1, 2, 10, 7], [9, 6, 5, 0, 4, 3, 1, 2, 11, 8, 10, 7]]
abbrev GL_A2 : List (List Nat) := [[], [0], [1, 0], [2, 1, 0], [3, 2, 1, 0], [4, 3, 2, 1, 0], [5, 4, 3, 2, 1, 0], [5, 4, 3, 2, 1, 0], [5, 4, 3, 2, 1, 0], [5, 4, 3, 2, 1, 0], [8, 5, 4, 3, 2, 1, 0, 9], [10, 8, 5, 4, 3, 2, 1, 0, 9], [5, 4, 3, 2, 1, 0], [6, 5, 4, 3, 2, 1, 0, 7, 11, 10, 8, 9, 12], [13, 6, 5, 4, 3, 2, 1, 0, 7, 11, 10, 8, 9, 12], [5, 4, 3, 2, 1, 0, 14, 13, 6, 7, 11, 10, 8, 9, 12], [2, 1, 0, 15, 5, 4, 3, 14, 13, 6, 7, 11, 10, 8, 9, 12]]
abbrev GL_A3 : List (List Nat) := [[], [0], [1, 0], [2, 1, 0], [2, 1, 0], [2, 1, 0], [2, 1, 0], [5, 2, 1, 0, 6], [7, 5, 2, 1, 0, 6], [2, 1, 0], [3, 2, 1, 0, 4, 8, 7, 5, 6, 9], [10, 3, 2, 1, 0, 4, 8, 7, 5, 6, 9], [2, 1, 0, 11, 10, 3, 4, 8, 7, 5, 6, 9]]
theorem l12_StepsBoth.D {a0 a1 a2 r} (h : l12_StepsBoth.f a0 a1 a2 r) : D Tryz.prog X (.callH 6 [.agg (TPds.lit a0), .agg (TConf.lit a1), .val (.int .i64 a2)] [] (.val (.bool r)) []) := by
  unfold l12_StepsBoth.f at h
  refine .enter 140 0 fn6 rfl rfl rfl <| .seq <| .room 0 <| .room 0 <| .reg0 rfl (.op 0 rfl (bxP (s := 6) (cs := (TPds.lit a0)) rfl ⟨rfl, by decide, rfl⟩ rfl) <| .op 1 rfl (bxP (s := 2) (cs := (TConf.lit a1)) rfl ⟨rfl, by decide, rfl⟩ rfl) <| .op 0 rfl (asV rfl) <| .nil0) <| .seq <| .seq ?_
  obtain ⟨t2_0, g2_0, h⟩ := h
  refine .reg0 rfl (.c rfl go12 rfl rfl rfl (l12_awake.D g2_0) <| .o (notB rfl) <| .nil0) ?_
  by_cases c1 : t2_0 = true
  · rw [if_pos c1] at h
    refine .condF rfl (bnotF c1) <| .skip <| .seq ?_
    obtain ⟨t3_2, g3_2, h⟩ := h
    refine .reg0 rfl (.o (ldG rfl sz28 ag28 rfl) <| .o (ldG rfl sz31 ag31 rfl) <| .c rfl go14 rfl rfl rfl (steps_Next.D g3_2) <| .o (mvT rfl) <| .o (exT rfl rfl) <| .o (exT rfl rfl) <| .o (exT rfl rfl) <| .o (asR rfl) <| .o (asR rfl) <| .a rfl <| .nil0) <| .seq <| .seq <| .reg0 rfl (.op 0 rfl (mvV rfl) <| .op 0 rfl (neI rfl rfl) <| .nil0) ?_
    by_cases c2 : t3_2.2.2 = 0
    · rw [if_pos c2] at h
      refine .condF rfl (nf c2) <| .skip <| .seq <| .seq <| .reg0 rfl (.op 0 rfl (mvR rfl) <| .op 0 rfl (lnR (l := t3_2.1) sl29 rfl) <| .op 0 rfl (mvR rfl) <| .op 0 rfl (lnR (l := t3_2.2.1) sl51 rfl) <| .op 0 rfl (neI rfl rfl) <| .nil0) ?_
      by_cases c3 : (t3_2.1.length : Int) = (t3_2.2.1.length : Int)
      · rw [if_pos c3] at h
        refine .condF rfl (nf c3) <| .skip <| .seq <| .seq <| .reg0 rfl (.op 0 rfl (asV rfl) <| .nil0) <| .block <| .keepL [0, 1] [(2, i6 a2), (3, .ptr 0 1 6 0 0), (4, .ptr 1 1 2 0 0), (7, .rows (t3_2.1.map (cInt .i64))), (8, .rows (t3_2.2.1.map TConf.cells)), (10, i6 0)] [⟨6, [(TPds.lit a0)], 0, none⟩, ⟨2, [(TConf.lit a1)], 0, none⟩] (by decide) (by decide) ⟨.free rfl rfl, .ptr rfl, .ptr rfl, .free rfl rfl, .free rfl rfl, .free rfl rfl, trivial⟩ ⟨⟨_, rfl, bcBox (all2_free rfl)⟩, ⟨_, rfl, bcBox (all2_free rfl)⟩, trivial⟩ ?_
        obtain ⟨o1, hL1, h⟩ := h
        refine .loopB (l12_StepsBoth.b1 a0 a1 t3_2) (fun x1 => listEnv [(2, i6 a2), (3, .ptr 0 1 6 0 0), (4, .ptr 1 1 2 0 0), (7, .rows (t3_2.1.map (cInt .i64))), (8, .rows (t3_2.2.1.map TConf.cells)), (10, i6 x1)]) (fun x1 => [⟨6, [(TPds.lit a0)], 0, none⟩, ⟨2, [(TConf.lit a1)], 0, none⟩]) (fun _ => listEnv [(2, i6 a2), (3, .ptr 0 1 6 0 0), (4, .ptr 1 1 2 0 0)]) (fun _ => [⟨6, [(TPds.lit a0)], 0, none⟩, ⟨2, [(TConf.lit a1)], 0, none⟩]) hL1 (fun r_ => r = r_) ?_ ?_ ?_
        · rintro ⟨⟩ rfl
          try dsimp only [Fin.on] at h
          refine .seq ?_
          obtain ⟨t37_2, g37_2, h⟩ := h
          refine .reg0 rfl (.o (ldG rfl sz28 ag28 rfl) <| .o (ldG rfl sz31 ag31 rfl) <| .c rfl go16 rfl rfl rfl (steps_Back.D g37_2) <| .o (mvT rfl) <| .o (exT rfl rfl) <| .o (exT rfl rfl) <| .o (exT rfl rfl) <| .o (asR rfl) <| .o (asR rfl) <| .a rfl <| .nil0) <| .seq <| .seq <| .reg0 rfl (.op 0 rfl (mvV rfl) <| .op 0 rfl (neI rfl rfl) <| .nil0) ?_
          by_cases c28 : t37_2.2.2 = 0
          · rw [if_pos c28] at h
            refine .condF rfl (nf c28) <| .skip <| .seq <| .seq <| .reg0 rfl (.op 0 rfl (asV rfl) <| .nil0) <| .block <| .keepL [0, 1] [(2, i6 a2), (3, .ptr 0 1 6 0 0), (4, .ptr 1 1 2 0 0), (14, .rows (t37_2.1.map (cInt .i64))), (15, .rows (t37_2.2.1.map TConf.cells)), (17, i6 0)] [⟨6, [(TPds.lit a0)], 0, none⟩, ⟨2, [(TConf.lit a1)], 0, none⟩] (by decide) (by decide) ⟨.free rfl rfl, .ptr rfl, .ptr rfl, .free rfl rfl, .free rfl rfl, .free rfl rfl, trivial⟩ ⟨⟨_, rfl, bcBox (all2_free rfl)⟩, ⟨_, rfl, bcBox (all2_free rfl)⟩, trivial⟩ ?_
            obtain ⟨o2, hL2, h⟩ := h
            refine .loopB (l12_StepsBoth.b2 a0 a1 t37_2) (fun x2 => listEnv [(2, i6 a2), (3, .ptr 0 1 6 0 0), (4, .ptr 1 1 2 0 0), (14, .rows (t37_2.1.map (cInt .i64))), (15, .rows (t37_2.2.1.map TConf.cells)), (17, i6 x2)]) (fun x2 => [⟨6, [(TPds.lit a0)], 0, none⟩, ⟨2, [(TConf.lit a1)], 0, none⟩]) (fun _ => listEnv [(2, i6 a2), (3, .ptr 0 1 6 0 0)]) (fun _ => [⟨6, [(TPds.lit a0)], 0, none⟩]) hL2 (fun r_ => r = r_) ?_ ?_ ?_
            · rintro ⟨⟩ rfl
              try dsimp only [Fin.on] at h
              refine .seq ?_
              obtain ⟨t55_11, g55_11, h⟩ := h
              refine .reg0 (e1 := listEnv [(6, bo ((decide (a2 < 0)) || ((decide (a2 ≥ (a0.Rules.length : Int))) || (t55_11 == 0))))]) (H1 := [⟨6, [(TPds.lit a0)], 0, none⟩]) rfl ?_ ?_
              · refine .m rfl <| .o (ltI rfl rfl) <| .m rfl <| ?_
                by_cases c44 : a2 < 0
                · exact (.n rfl (dt c44) <| .n rfl (dt c44) <| .n rfl (dt c44) <| .n rfl (dt c44) <| .n rfl (dt c44) <| .o (pkTV rfl (dt c44) rfl) <| .m rfl <| .n rfl rfl <| .n rfl rfl <| .n rfl rfl <| .o (pkTV rfl rfl rfl) <| .a rfl <| .nilL _ ⟨cB rfl (mOrT (dt c44)), trivial⟩)
                · refine .g rfl (df c44) (mvV rfl) <| .g rfl (df c44) (faP fa28_3 rfl) <| .g rfl (df c44) (ldP rfl sz26 ag26 rfl) <| .g rfl (df c44) (lnR (l := a0.Rules) sl26 rfl) <| .g rfl (df c44) (geI rfl rfl) <| .o (pkFV rfl (df c44) rfl) <| .m rfl <| ?_
                  by_cases c45 : a2 ≥ (a0.Rules.length : Int)
                  · exact (.n rfl (dt c45) <| .n rfl (dt c45) <| .n rfl (dt c45) <| .o (pkTV rfl (dt c45) rfl) <| .a rfl <| .nilL _ ⟨cB rfl (mOrF (df c44) (mOrT (dt c45))), trivial⟩)
                  · exact (.g rfl (df c45) (ldG rfl sz28 ag28 rfl) <| .callI (gT rfl rfl rfl (df c45)) (callee_of rfl go23 rfl) (.pure rfl rfl (r11_Check.D (g55_11 c44 c45))) <| .g rfl (df c45) (eqI rfl rfl) <| .o (pkFV rfl (df c45) rfl) <| .a rfl <| .nilL _ ⟨cB rfl (mOrF (df c44) (mOrF (df c45) rfl)), trivial⟩)
              replace h := h.symm
              subst h
              refine .kf [(6, bo ((decide (a2 < 0)) || ((decide (a2 ≥ (a0.Rules.length : Int))) || (t55_11 == 0))))] rfl rfl ?_
              exact .ret rfl
            · rintro r_ rfl
              exact h
            · rintro x2 z2 h hn2 hx2 hr2
              dsimp only [l12_StepsBoth.b2] at h
              refine .seq <| .seq ?_
              refine .reg0 (e1 := listEnv [(2, i6 a2), (3, .ptr 0 1 6 0 0), (4, .ptr 1 1 2 0 0), (14, .rows (t37_2.1.map (cInt .i64))), (15, .rows (t37_2.2.1.map TConf.cells)), (17, i6 x2), (96, bo ((decide (x2 < (t37_2.1.length : Int))) && (decide (x2 < 50))))]) (H1 := [⟨6, [(TPds.lit a0)], 0, none⟩, ⟨2, [(TConf.lit a1)], 0, none⟩]) rfl ?_ ?_
              · refine .m rfl <| .o (mvR rfl) <| .o (lnR (l := t37_2.1) sl29 rfl) <| .o (ltI rfl rfl) <| .m rfl <| ?_
                by_cases c39 : x2 < (t37_2.1.length : Int)
                · exact (.g rfl (dt c39) (mvV rfl) <| .g rfl (dt c39) (ltI rfl rfl) <| .o (pkTV rfl (dt c39) rfl) <| .nilL _ ⟨.free rfl rfl, .ptr rfl, .ptr rfl, .free rfl rfl, .free rfl rfl, .free rfl rfl, cB rfl (mAndT (dt c39) rfl), trivial⟩)
                · exact (.n rfl (df c39) <| .n rfl (df c39) <| .o (pkFV rfl (df c39) rfl) <| .nilL _ ⟨.free rfl rfl, .ptr rfl, .ptr rfl, .free rfl rfl, .free rfl rfl, .free rfl rfl, cB rfl (mAndF (df c39)), trivial⟩)
              by_cases c40 : ((decide (x2 < (t37_2.1.length : Int))) && (decide (x2 < 50))) = true
              · rw [if_pos c40] at h
                refine .condT rfl c40 <| .skip <| .seq <| .block <| .seq ?_
                obtain ⟨g51_3, h⟩ := h
                obtain ⟨t51_5, g51_5, h⟩ := h
                refine .reg1 (e1 := listEnv [(2, i6 a2), (3, .ptr 0 1 6 0 0), (4, .ptr 1 1 2 0 0), (14, .rows (t37_2.1.map (cInt .i64))), (15, .rows (t37_2.2.1.map TConf.cells)), (17, i6 x2), (18, .rows (t51_5.1.map (cInt .i64))), (19, .rows (t51_5.2.1.map TConf.cells)), (20, i6 t51_5.2.2)]) (H1 := [⟨6, [(TPds.lit a0)], 0, none⟩, ⟨2, [(TConf.lit a1)], 0, none⟩]) rfl ?_ ?_
                · exact .drawM [(12, 20, i6 t51_5.2.2), (11, 19, .rows (t51_5.2.1.map TConf.cells)), (10, 18, .rows (t51_5.1.map (cInt .i64))), (9, 108, i6 t51_5.2.2), (8, 107, .rows (t51_5.2.1.map TConf.cells)), (7, 106, .rows (t51_5.1.map (cInt .i64))), (6, 99, .tuple [.rows (t51_5.1.map (cInt .i64)), .rows (t51_5.2.1.map TConf.cells), i6 t51_5.2.2]), (5, 105, .tuple [.rows (t51_5.1.map (cInt .i64)), .rows (t51_5.2.1.map TConf.cells), i6 t51_5.2.2]), (4, 104, .agg (TConf.lit (rdl t37_2.2.1 x2))), (3, 103, .cptr (TConf.lit (rdl t37_2.2.1 x2)) 0), (2, 102, i6 x2), (1, 101, .rows (t37_2.2.1.map TConf.cells)), (0, 100, .agg (TPds.lit a0))] [] GL_A1 (by rfl) (by rfl) (by rfl) (by exact ⟨oP (fun _ => ldG rfl sz28 ag28 rfl) rfl, oP (fun _ => mvR rfl) rfl, oP (fun _ => mvV rfl) rfl, oP (fun _ => ixR (l := t37_2.2.1) (lit := TConf.lit) sl51 rfl rfl (fun _ => rfl) g51_3.1 g51_3.2) rfl, oP (fun _ => ldCG rfl sz31 ag31 rfl) rfl, fun S hS hD hn => .oneI hS hD hn rfl rfl (callee_of rfl go14 rfl) (.pure rfl rfl (steps_Next.D g51_5)) rfl rfl rfl, oP (fun _ => mvT rfl) rfl, oP (fun _ => exT rfl rfl) rfl, oP (fun _ => exT rfl rfl) rfl, oP (fun _ => exT rfl rfl) rfl, oP (fun _ => asR rfl) rfl, oP (fun _ => asR rfl) rfl, oP (fun _ => asV rfl) rfl, trivial⟩) _ (by exact ⟨.free rfl rfl, .ptr rfl, .ptr rfl, .free rfl rfl, .free rfl rfl, .free rfl rfl, .free rfl rfl, .free rfl rfl, .free rfl rfl, trivial⟩) (by rfl)
                refine .seq ?_
                obtain ⟨g52_10, h⟩ := h
                obtain ⟨t52_13, g52_13, h⟩ := h
                refine .reg1 (e1 := listEnv [(2, i6 a2), (3, .ptr 0 1 6 0 0), (4, .ptr 1 1 2 0 0), (14, .rows (t37_2.1.map (cInt .i64))), (15, .rows (t37_2.2.1.map TConf.cells)), (17, i6 x2), (125, bo ((!(t51_5.2.2 == 2)) && ((!(t51_5.2.2 == 0)) || (!t52_13))))]) (H1 := [⟨6, [(TPds.lit a0)], 0, none⟩, ⟨2, [(TConf.lit a1)], 0, none⟩]) rfl ?_ ?_
                · by_cases c41 : t51_5.2.2 = 2
                  · exact .drawM [(16, 125, bo false), (15, 124, und), (14, 123, und), (13, 122, und), (12, 121, und), (11, 120, und), (10, 119, und), (9, 118, und), (8, 117, und), (7, 116, und), (6, 115, und), (5, 114, und), (4, 113, und), (3, 112, und), (2, 111, bo (t51_5.2.2 != 2)), (1, 110, bo (t51_5.2.2 != 2)), (0, 109, i6 t51_5.2.2)] [] GL_A2 (by rfl) (by rfl) (by rfl) (by exact ⟨oP (fun _ => mvV rfl) rfl, oP (fun _ => neI rfl rfl) rfl, oP (fun _ => mvV rfl) rfl, oN rfl (fun _ => rfl) (nf c41) rfl, oN rfl (fun _ => rfl) (nf c41) rfl, oN rfl (fun _ => rfl) (nf c41) rfl, fun S hS hD hn => .oneNo hS hD (gN rfl rfl rfl) rfl hn rfl rfl rfl, fun S hS hD hn => .oneNo hS hD (gN rfl rfl rfl) rfl hn rfl rfl rfl, fun S hS hD hn => .oneNo hS hD (gN rfl rfl rfl) rfl hn rfl rfl rfl, fun S hS hD hn => .oneNo hS hD (gN rfl rfl rfl) rfl hn rfl rfl rfl, fun S hS hD hn => .oneNo hS hD (gN rfl rfl rfl) rfl hn rfl rfl rfl, fun S hS hD hn => .oneNo hS hD (gN rfl rfl rfl) rfl hn rfl rfl rfl, fun S hS hD hn => .oneNo hS hD (gN rfl rfl rfl) rfl hn rfl rfl rfl, fun S hS hD hn => .oneNo hS hD (gN rfl rfl rfl) rfl hn rfl rfl rfl, fun S hS hD hn => .oneNo hS hD (gN rfl rfl rfl) rfl hn rfl rfl rfl, oN rfl (fun _ => rfl) (nf c41) rfl, oP (fun _ => pkFV rfl (nf c41) rfl) rfl, trivial⟩) _ (by exact ⟨.free rfl rfl, .ptr rfl, .ptr rfl, .free rfl rfl, .free rfl rfl, .free rfl rfl, cB rfl (mAndF (bnotF (bt c41))), trivial⟩) (by rfl)
                  · by_cases c42 : t51_5.2.2 = 0
                    · exact .drawM [(16, 125, bo (!t52_13)), (15, 124, bo (!t52_13)), (14, 123, bo (!t52_13)), (13, 122, bo t52_13), (12, 121, .agg (TConf.lit a1)), (11, 120, i6 (rdl t37_2.1 x2)), (10, 119, .cptr ((cInt .i64) (rdl t37_2.1 x2)) 0), (9, 118, i6 x2), (8, 117, .rows (t37_2.1.map (cInt .i64))), (7, 116, .rows (t51_5.2.1.map TConf.cells)), (6, 115, .rows (t51_5.1.map (cInt .i64))), (5, 114, bo (t51_5.2.2 != 0)), (4, 113, bo (t51_5.2.2 != 0)), (3, 112, i6 t51_5.2.2), (2, 111, bo (t51_5.2.2 != 2)), (1, 110, bo (t51_5.2.2 != 2)), (0, 109, i6 t51_5.2.2)] [] GL_A2 (by rfl) (by rfl) (by rfl) (by exact ⟨oP (fun _ => mvV rfl) rfl, oP (fun _ => neI rfl rfl) rfl, oP (fun _ => mvV rfl) rfl, oG rfl (fun _ => rfl) (nt c41) (fun _ => mvV rfl) rfl, oG rfl (fun _ => rfl) (nt c41) (fun _ => neI rfl rfl) rfl, oG rfl (fun _ => rfl) (nt c41) (fun _ => mvV rfl) rfl, oG rfl (fun _ => rfl) (nf c42) (fun _ => mvR rfl) rfl, oG rfl (fun _ => rfl) (nf c42) (fun _ => mvR rfl) rfl, oG rfl (fun _ => rfl) (nf c42) (fun _ => mvR rfl) rfl, oG rfl (fun _ => rfl) (nf c42) (fun _ => mvV rfl) rfl, oG rfl (fun _ => rfl) (nf c42) (fun _ => ixR (l := t37_2.1) (lit := (cInt .i64)) sl29 rfl rfl (fun _ => rfl) (g52_10 c41 c42).1 (g52_10 c41 c42).2) rfl, oG rfl (fun _ => rfl) (nf c42) (fun _ => ldC rfl sz3 ag3 rfl) rfl, oG rfl (fun _ => rfl) (nf c42) (fun _ => ldG rfl sz31 ag31 rfl) rfl, fun S hS hD hn => .oneI hS hD hn (gT rfl rfl rfl (nf c42)) rfl (callee_of rfl go22 rfl) (.pure rfl rfl (l12_among.D (g52_13 c41 c42))) rfl rfl rfl, oG rfl (fun _ => rfl) (nf c42) (fun _ => notB rfl) rfl, oG rfl (fun _ => rfl) (nt c41) (fun _ => pkFV rfl (nf c42) rfl) rfl, oP (fun _ => pkTV rfl (nt c41) rfl) rfl, trivial⟩) _ (by exact ⟨.free rfl rfl, .ptr rfl, .ptr rfl, .free rfl rfl, .free rfl rfl, .free rfl rfl, cB rfl (mAndT (bnotT (bn c41)) (mOrF (bnotF (bt c42)) rfl)), trivial⟩) (by rfl)
                    · exact .drawM [(16, 125, bo true), (15, 124, bo true), (14, 123, und), (13, 122, und), (12, 121, und), (11, 120, und), (10, 119, und), (9, 118, und), (8, 117, und), (7, 116, und), (6, 115, und), (5, 114, bo (t51_5.2.2 != 0)), (4, 113, bo (t51_5.2.2 != 0)), (3, 112, i6 t51_5.2.2), (2, 111, bo (t51_5.2.2 != 2)), (1, 110, bo (t51_5.2.2 != 2)), (0, 109, i6 t51_5.2.2)] [] GL_A2 (by rfl) (by rfl) (by rfl) (by exact ⟨oP (fun _ => mvV rfl) rfl, oP (fun _ => neI rfl rfl) rfl, oP (fun _ => mvV rfl) rfl, oG rfl (fun _ => rfl) (nt c41) (fun _ => mvV rfl) rfl, oG rfl (fun _ => rfl) (nt c41) (fun _ => neI rfl rfl) rfl, oG rfl (fun _ => rfl) (nt c41) (fun _ => mvV rfl) rfl, oN rfl (fun _ => rfl) (nt c42) rfl, oN rfl (fun _ => rfl) (nt c42) rfl, oN rfl (fun _ => rfl) (nt c42) rfl, oN rfl (fun _ => rfl) (nt c42) rfl, oN rfl (fun _ => rfl) (nt c42) rfl, oN rfl (fun _ => rfl) (nt c42) rfl, oN rfl (fun _ => rfl) (nt c42) rfl, oN rfl (fun _ => rfl) (nt c42) rfl, oN rfl (fun _ => rfl) (nt c42) rfl, oG rfl (fun _ => rfl) (nt c41) (fun _ => pkTV rfl (nt c42) rfl) rfl, oP (fun _ => pkTV rfl (nt c41) rfl) rfl, trivial⟩) _ (by exact ⟨.free rfl rfl, .ptr rfl, .ptr rfl, .free rfl rfl, .free rfl rfl, .free rfl rfl, cB rfl (mAndT (bnotT (bn c41)) (mOrT (bnotT (bn c42)))), trivial⟩) (by rfl)
                by_cases c43 : ((!(t51_5.2.2 == 2)) && ((!(t51_5.2.2 == 0)) || (!t52_13))) = true
                · rw [if_pos c43] at h
                  refine .condT rfl c43 <| .seq <| .reg0 rfl (.op 0 rfl (asV rfl) <| .nil0) ?_
                  have q9 := hr2 _ h
                  replace q9 := q9.symm
                  subst q9
                  refine .kf [(6, bo false)] rfl rfl ?_
                  exact .ret rfl
                · rw [if_neg c43] at h
                  refine .condF rfl (nb c43) <| .skip <| .inBlock <| .reg0 rfl (.op 0 rfl (mvV rfl) <| .op 0 rfl (addI rfl rfl) <| .op 0 rfl (asV rfl) <| .nil0) <| .keepL [0, 1] [(2, i6 a2), (3, .ptr 0 1 6 0 0), (4, .ptr 1 1 2 0 0), (14, .rows (t37_2.1.map (cInt .i64))), (15, .rows (t37_2.2.1.map TConf.cells)), (17, i6 (IntKind.i64.wrap (x2 + 1)))] [⟨6, [(TPds.lit a0)], 0, none⟩, ⟨2, [(TConf.lit a1)], 0, none⟩] (by decide) (by decide) ⟨.free rfl rfl, .ptr rfl, .ptr rfl, .free rfl rfl, .free rfl rfl, .free rfl rfl, trivial⟩ ⟨⟨_, rfl, bcBox (all2_free rfl)⟩, ⟨_, rfl, bcBox (all2_free rfl)⟩, trivial⟩ ?_
                  exact hn2 _ h
              · rw [if_neg c40] at h
                refine .condF rfl (nb c40) <| .exit rfl <| .keepL [0] [(2, i6 a2), (3, .ptr 0 1 6 0 0)] [⟨6, [(TPds.lit a0)], 0, none⟩] (by decide) (by decide) ⟨.free rfl rfl, .ptr rfl, trivial⟩ ⟨⟨_, rfl, bcBox (all2_free rfl)⟩, trivial⟩ ?_
                exact hx2 _ h
          · rw [if_neg c28] at h
            refine .condT rfl (nt c28) <| .seq <| .reg0 rfl (.op 0 rfl (mvV rfl) <| .op 0 rfl (eqI rfl rfl) <| .op 0 rfl (asV rfl) <| .nil0) ?_
            replace h := h.symm
            subst h
            refine .kf [(6, bo (t37_2.2.2 == 2))] rfl rfl ?_
            exact .ret rfl
        · rintro r_ rfl
          exact h
        · rintro x1 z1 h hn1 hx1 hr1
          dsimp only [l12_StepsBoth.b1] at h
          refine .seq <| .seq ?_
          refine .reg0 (e1 := listEnv [(2, i6 a2), (3, .ptr 0 1 6 0 0), (4, .ptr 1 1 2 0 0), (7, .rows (t3_2.1.map (cInt .i64))), (8, .rows (t3_2.2.1.map TConf.cells)), (10, i6 x1), (50, bo ((decide (x1 < (t3_2.1.length : Int))) && (decide (x1 < 50))))]) (H1 := [⟨6, [(TPds.lit a0)], 0, none⟩, ⟨2, [(TConf.lit a1)], 0, none⟩]) rfl ?_ ?_
          · refine .m rfl <| .o (mvR rfl) <| .o (lnR (l := t3_2.1) sl29 rfl) <| .o (ltI rfl rfl) <| .m rfl <| ?_
            by_cases c20 : x1 < (t3_2.1.length : Int)
            · exact (.g rfl (dt c20) (mvV rfl) <| .g rfl (dt c20) (ltI rfl rfl) <| .o (pkTV rfl (dt c20) rfl) <| .nilL _ ⟨.free rfl rfl, .ptr rfl, .ptr rfl, .free rfl rfl, .free rfl rfl, .free rfl rfl, cB rfl (mAndT (dt c20) rfl), trivial⟩)
            · exact (.n rfl (df c20) <| .n rfl (df c20) <| .o (pkFV rfl (df c20) rfl) <| .nilL _ ⟨.free rfl rfl, .ptr rfl, .ptr rfl, .free rfl rfl, .free rfl rfl, .free rfl rfl, cB rfl (mAndF (df c20)), trivial⟩)
          by_cases c21 : ((decide (x1 < (t3_2.1.length : Int))) && (decide (x1 < 50))) = true
          · rw [if_pos c21] at h
            refine .condT rfl c21 <| .skip <| .seq ?_
            refine .consJ (fun s_ => l12_StepsBoth.j1 x1 s_ z1) (fun _ => listEnv [(2, i6 a2), (3, .ptr 0 1 6 0 0), (4, .ptr 1 1 2 0 0), (7, .rows (t3_2.1.map (cInt .i64))), (8, .rows (t3_2.2.1.map TConf.cells)), (10, i6 x1)]) (fun _ => [⟨6, [(TPds.lit a0)], 0, none⟩, ⟨2, [(TConf.lit a1)], 0, none⟩]) ?_ fun hJ1 => ?_
            · rintro ⟨⟩ h
              unfold l12_StepsBoth.j1 at h
              try dsimp only at h
              refine .reg0 rfl (.m rfl <| .o (addI rfl rfl) <| .a rfl <| .nil0) <| .keepL [0, 1] [(2, i6 a2), (3, .ptr 0 1 6 0 0), (4, .ptr 1 1 2 0 0), (7, .rows (t3_2.1.map (cInt .i64))), (8, .rows (t3_2.2.1.map TConf.cells)), (10, i6 (IntKind.i64.wrap (x1 + 1)))] [⟨6, [(TPds.lit a0)], 0, none⟩, ⟨2, [(TConf.lit a1)], 0, none⟩] (by decide) (by decide) ⟨.free rfl rfl, .ptr rfl, .ptr rfl, .free rfl rfl, .free rfl rfl, .free rfl rfl, trivial⟩ ⟨⟨_, rfl, bcBox (all2_free rfl)⟩, ⟨_, rfl, bcBox (all2_free rfl)⟩, trivial⟩ ?_
              exact hn1 _ h
            · refine .block <| .seq ?_
              obtain ⟨g33_3, h⟩ := h
              obtain ⟨t33_5, g33_5, h⟩ := h
              refine .reg1 (e1 := listEnv [(2, i6 a2), (3, .ptr 0 1 6 0 0), (4, .ptr 1 1 2 0 0), (7, .rows (t3_2.1.map (cInt .i64))), (8, .rows (t3_2.2.1.map TConf.cells)), (10, i6 x1), (11, .rows (t33_5.1.map (cInt .i64))), (12, .rows (t33_5.2.1.map TConf.cells)), (13, i6 t33_5.2.2)]) (H1 := [⟨6, [(TPds.lit a0)], 0, none⟩, ⟨2, [(TConf.lit a1)], 0, none⟩]) rfl ?_ ?_
              · exact .drawM [(12, 13, i6 t33_5.2.2), (11, 12, .rows (t33_5.2.1.map TConf.cells)), (10, 11, .rows (t33_5.1.map (cInt .i64))), (9, 62, i6 t33_5.2.2), (8, 61, .rows (t33_5.2.1.map TConf.cells)), (7, 60, .rows (t33_5.1.map (cInt .i64))), (6, 53, .tuple [.rows (t33_5.1.map (cInt .i64)), .rows (t33_5.2.1.map TConf.cells), i6 t33_5.2.2]), (5, 59, .tuple [.rows (t33_5.1.map (cInt .i64)), .rows (t33_5.2.1.map TConf.cells), i6 t33_5.2.2]), (4, 58, .agg (TConf.lit (rdl t3_2.2.1 x1))), (3, 57, .cptr (TConf.lit (rdl t3_2.2.1 x1)) 0), (2, 56, i6 x1), (1, 55, .rows (t3_2.2.1.map TConf.cells)), (0, 54, .agg (TPds.lit a0))] [] GL_A1 (by rfl) (by rfl) (by rfl) (by exact ⟨oP (fun _ => ldG rfl sz28 ag28 rfl) rfl, oP (fun _ => mvR rfl) rfl, oP (fun _ => mvV rfl) rfl, oP (fun _ => ixR (l := t3_2.2.1) (lit := TConf.lit) sl51 rfl rfl (fun _ => rfl) g33_3.1 g33_3.2) rfl, oP (fun _ => ldCG rfl sz31 ag31 rfl) rfl, fun S hS hD hn => .oneI hS hD hn rfl rfl (callee_of rfl go16 rfl) (.pure rfl rfl (steps_Back.D g33_5)) rfl rfl rfl, oP (fun _ => mvT rfl) rfl, oP (fun _ => exT rfl rfl) rfl, oP (fun _ => exT rfl rfl) rfl, oP (fun _ => exT rfl rfl) rfl, oP (fun _ => asR rfl) rfl, oP (fun _ => asR rfl) rfl, oP (fun _ => asV rfl) rfl, trivial⟩) _ (by exact ⟨.free rfl rfl, .ptr rfl, .ptr rfl, .free rfl rfl, .free rfl rfl, .free rfl rfl, .free rfl rfl, .free rfl rfl, .free rfl rfl, trivial⟩) (by rfl)
              refine .seq <| .seq <| .reg0 rfl (.op 0 rfl (mvV rfl) <| .op 0 rfl (eqI rfl rfl) <| .nil0) ?_
              by_cases c25 : t33_5.2.2 = 2
              · rw [if_pos c25] at h
                refine .condT rfl (bt c25) <| .exit rfl <| .keepL [0, 1] [(2, i6 a2), (3, .ptr 0 1 6 0 0), (4, .ptr 1 1 2 0 0), (7, .rows (t3_2.1.map (cInt .i64))), (8, .rows (t3_2.2.1.map TConf.cells)), (10, i6 x1)] [⟨6, [(TPds.lit a0)], 0, none⟩, ⟨2, [(TConf.lit a1)], 0, none⟩] (by decide) (by decide) ⟨.free rfl rfl, .ptr rfl, .ptr rfl, .free rfl rfl, .free rfl rfl, .free rfl rfl, trivial⟩ ⟨⟨_, rfl, bcBox (all2_free rfl)⟩, ⟨_, rfl, bcBox (all2_free rfl)⟩, trivial⟩ ?_
                exact hJ1 _ h
              · rw [if_neg c25] at h
                refine .condF rfl (bn c25) <| .skip <| .seq ?_
                obtain ⟨g35_7, h⟩ := h
                obtain ⟨t35_10, g35_10, h⟩ := h
                refine .reg1 (e1 := listEnv [(2, i6 a2), (3, .ptr 0 1 6 0 0), (4, .ptr 1 1 2 0 0), (7, .rows (t3_2.1.map (cInt .i64))), (8, .rows (t3_2.2.1.map TConf.cells)), (10, i6 x1), (77, bo ((!(t33_5.2.2 == 0)) || (!t35_10)))]) (H1 := [⟨6, [(TPds.lit a0)], 0, none⟩, ⟨2, [(TConf.lit a1)], 0, none⟩]) rfl ?_ ?_
                · by_cases c26 : t33_5.2.2 = 0
                  · exact .drawM [(12, 77, bo (!t35_10)), (11, 76, bo (!t35_10)), (10, 75, bo t35_10), (9, 74, .agg (TConf.lit a1)), (8, 73, i6 (rdl t3_2.1 x1)), (7, 72, .cptr ((cInt .i64) (rdl t3_2.1 x1)) 0), (6, 71, i6 x1), (5, 70, .rows (t3_2.1.map (cInt .i64))), (4, 69, .rows (t33_5.2.1.map TConf.cells)), (3, 68, .rows (t33_5.1.map (cInt .i64))), (2, 67, bo (t33_5.2.2 != 0)), (1, 66, bo (t33_5.2.2 != 0)), (0, 65, i6 t33_5.2.2)] [] GL_A3 (by rfl) (by rfl) (by rfl) (by exact ⟨oP (fun _ => mvV rfl) rfl, oP (fun _ => neI rfl rfl) rfl, oP (fun _ => mvV rfl) rfl, oG rfl (fun _ => rfl) (nf c26) (fun _ => mvR rfl) rfl, oG rfl (fun _ => rfl) (nf c26) (fun _ => mvR rfl) rfl, oG rfl (fun _ => rfl) (nf c26) (fun _ => mvR rfl) rfl, oG rfl (fun _ => rfl) (nf c26) (fun _ => mvV rfl) rfl, oG rfl (fun _ => rfl) (nf c26) (fun _ => ixR (l := t3_2.1) (lit := (cInt .i64)) sl29 rfl rfl (fun _ => rfl) (g35_7 c26).1 (g35_7 c26).2) rfl, oG rfl (fun _ => rfl) (nf c26) (fun _ => ldC rfl sz3 ag3 rfl) rfl, oG rfl (fun _ => rfl) (nf c26) (fun _ => ldG rfl sz31 ag31 rfl) rfl, fun S hS hD hn => .oneI hS hD hn (gT rfl rfl rfl (nf c26)) rfl (callee_of rfl go22 rfl) (.pure rfl rfl (l12_among.D (g35_10 c26))) rfl rfl rfl, oG rfl (fun _ => rfl) (nf c26) (fun _ => notB rfl) rfl, oP (fun _ => pkFV rfl (nf c26) rfl) rfl, trivial⟩) _ (by exact ⟨.free rfl rfl, .ptr rfl, .ptr rfl, .free rfl rfl, .free rfl rfl, .free rfl rfl, cB rfl (mOrF (bnotF (bt c26)) rfl), trivial⟩) (by rfl)
                  · exact .drawM [(12, 77, bo true), (11, 76, und), (10, 75, und), (9, 74, und), (8, 73, und), (7, 72, und), (6, 71, und), (5, 70, und), (4, 69, und), (3, 68, und), (2, 67, bo (t33_5.2.2 != 0)), (1, 66, bo (t33_5.2.2 != 0)), (0, 65, i6 t33_5.2.2)] [] GL_A3 (by rfl) (by rfl) (by rfl) (by exact ⟨oP (fun _ => mvV rfl) rfl, oP (fun _ => neI rfl rfl) rfl, oP (fun _ => mvV rfl) rfl, oN rfl (fun _ => rfl) (nt c26) rfl, oN rfl (fun _ => rfl) (nt c26) rfl, oN rfl (fun _ => rfl) (nt c26) rfl, oN rfl (fun _ => rfl) (nt c26) rfl, oN rfl (fun _ => rfl) (nt c26) rfl, oN rfl (fun _ => rfl) (nt c26) rfl, oN rfl (fun _ => rfl) (nt c26) rfl, oN rfl (fun _ => rfl) (nt c26) rfl, oN rfl (fun _ => rfl) (nt c26) rfl, oP (fun _ => pkTV rfl (nt c26) rfl) rfl, trivial⟩) _ (by exact ⟨.free rfl rfl, .ptr rfl, .ptr rfl, .free rfl rfl, .free rfl rfl, .free rfl rfl, cB rfl (mOrT (bnotT (bn c26))), trivial⟩) (by rfl)
                by_cases c27 : ((!(t33_5.2.2 == 0)) || (!t35_10)) = true
                · rw [if_pos c27] at h
                  refine .condT rfl c27 <| .seq <| .reg0 rfl (.op 0 rfl (asV rfl) <| .nil0) ?_
                  have q6 := hr1 _ h
                  replace q6 := q6.symm
                  subst q6
                  refine .kf [(6, bo false)] rfl rfl ?_
                  exact .ret rfl
                · rw [if_neg c27] at h
                  refine .condF rfl (nb c27) <| .skip <| .inBlock <| .keepL [0, 1] [(2, i6 a2), (3, .ptr 0 1 6 0 0), (4, .ptr 1 1 2 0 0), (7, .rows (t3_2.1.map (cInt .i64))), (8, .rows (t3_2.2.1.map TConf.cells)), (10, i6 x1)] [⟨6, [(TPds.lit a0)], 0, none⟩, ⟨2, [(TConf.lit a1)], 0, none⟩] (by decide) (by decide) ⟨.free rfl rfl, .ptr rfl, .ptr rfl, .free rfl rfl, .free rfl rfl, .free rfl rfl, trivial⟩ ⟨⟨_, rfl, bcBox (all2_free rfl)⟩, ⟨_, rfl, bcBox (all2_free rfl)⟩, trivial⟩ ?_
                  exact hJ1 _ h
          · rw [if_neg c21] at h
            refine .condF rfl (nb c21) <| .exit rfl <| .keepL [0, 1] [(2, i6 a2), (3, .ptr 0 1 6 0 0), (4, .ptr 1 1 2 0 0)] [⟨6, [(TPds.lit a0)], 0, none⟩, ⟨2, [(TConf.lit a1)], 0, none⟩] (by decide) (by decide) ⟨.free rfl rfl, .ptr rfl, .ptr rfl, trivial⟩ ⟨⟨_, rfl, bcBox (all2_free rfl)⟩, ⟨_, rfl, bcBox (all2_free rfl)⟩, trivial⟩ ?_
            exact hx1 _ h
      · rw [if_neg c3] at h
        refine .condT rfl (nt c3) <| .seq <| .reg0 rfl (.op 0 rfl (asV rfl) <| .nil0) ?_
        replace h := h.symm
        subst h
        refine .kf [(6, bo false)] rfl rfl ?_
        exact .ret rfl
    · rw [if_neg c2] at h
      refine .condT rfl (nt c2) <| .seq <| .reg0 rfl (.op 0 rfl (mvR rfl) <| .op 0 rfl (lnR (l := t3_2.1) sl29 rfl) <| .op 0 rfl (mvR rfl) <| .op 0 rfl (lnR (l := t3_2.2.1) sl51 rfl) <| .op 0 rfl (addI rfl rfl) <| .op 0 rfl (eqI rfl rfl) <| .op 0 rfl (asV rfl) <| .nil0) ?_
      replace h := h.symm
      subst h
      refine .kf [(6, bo ((IntKind.i64.wrap ((t3_2.1.length : Int) + (t3_2.2.1.length : Int))) == 0))] rfl rfl ?_
      exact .ret rfl
  · rw [if_neg c1] at h
    refine .condT rfl (bnotT (nb c1)) <| .seq <| .reg0 rfl (.op 0 rfl (asV rfl) <| .nil0) ?_
    replace h := h.symm
    subst h
    refine .kf [(6, bo false)] rfl rfl ?_
    exact .ret rfl
end Go.RM.Tryz
