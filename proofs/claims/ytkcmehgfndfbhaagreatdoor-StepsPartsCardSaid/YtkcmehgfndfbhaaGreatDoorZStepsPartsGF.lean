/- GF, for the statement StepsParts: what it needs, no more. -/
import Derived.Test.YtkcmehgfndfbhaaGreatDoorZStepsPartsGE
set_option linter.unusedVariables false
set_option maxRecDepth 8000
set_option maxHeartbeats 4000000
namespace Go.RM.Tryz
open Go.RM Go.Proofs
def r03_Same.b1 (a0 : TFacts) (a1 : TFacts) : Int → Rnd Int Unit Bool → Prop := fun x1 z1 => if x1 < (a0.Rows.length : Int) then (((InR x1 a0.Rows.length)) ∧ ((InR x1 a1.Rows.length)) ∧ if (rdl a0.Rows x1) = (rdl a1.Rows x1) then (z1 = .next (IntKind.i64.wrap (x1 + 1))) else (z1 = .ret false)) else (z1 = .exit ())
def r03_Same.f (a0 : TFacts) (a1 : TFacts) (r : Bool) : Prop :=
  if ((!(a0.Gen == a1.Gen)) || ((a0.Rows.length : Int) != (a1.Rows.length : Int))) = true then (r = false) else (∃ o1 : Fin Unit Bool, Loop (r03_Same.b1 a0 a1) 0 o1 ∧ o1.on (fun _ => r = true) (fun r_ => r = r_))
theorem r03_Same.D {a0 a1 r} (h : r03_Same.f a0 a1 r) : D Tryz.prog X (.callH 36 [.agg (TFacts.lit a0), .agg (TFacts.lit a1)] [] (.val (.bool r)) []) := by
  unfold r03_Same.f at h
  refine .enter 38 0 fn36 rfl rfl rfl <| .seq <| .room 0 <| .room 0 <| .reg0 rfl (.op 0 rfl (bxP (s := 2) (cs := (TFacts.lit a0)) rfl ⟨rfl, by decide, rfl⟩ rfl) <| .op 1 rfl (bxP (s := 2) (cs := (TFacts.lit a1)) rfl ⟨rfl, by decide, rfl⟩ rfl) <| .op 0 rfl (asV rfl) <| .nil0) <| .seq <| .seq ?_
  refine .reg0 (e1 := listEnv [(2, .ptr 0 1 2 0 0), (3, .ptr 1 1 2 0 0), (19, bo ((!(a0.Gen == a1.Gen)) || ((a0.Rows.length : Int) != (a1.Rows.length : Int))))]) (H1 := [⟨2, [(TFacts.lit a0)], 0, none⟩, ⟨2, [(TFacts.lit a1)], 0, none⟩]) rfl ?_ ?_
  · refine .o (faP fa35_0 rfl) <| .o (ldP rfl sz32 ag32 rfl) <| .o (faP fa35_0 rfl) <| .o (ldP rfl sz32 ag32 rfl) <| .o (neI rfl rfl) <| .m rfl <| ?_
    by_cases c1 : a0.Gen = a1.Gen
    · exact (.g rfl (nf c1) (faP fa35_1 rfl) <| .g rfl (nf c1) (ldP rfl sz33 ag33 rfl) <| .g rfl (nf c1) (lnR (l := a0.Rows) sl33 rfl) <| .g rfl (nf c1) (faP fa35_1 rfl) <| .g rfl (nf c1) (ldP rfl sz33 ag33 rfl) <| .g rfl (nf c1) (lnR (l := a1.Rows) sl33 rfl) <| .g rfl (nf c1) (neI rfl rfl) <| .o (pkFV rfl (nf c1) rfl) <| .nilL _ ⟨.ptr rfl, .ptr rfl, cB rfl (mOrF (bnotF (bt c1)) rfl), trivial⟩)
    · exact (.n rfl (nt c1) <| .n rfl (nt c1) <| .n rfl (nt c1) <| .n rfl (nt c1) <| .n rfl (nt c1) <| .n rfl (nt c1) <| .n rfl (nt c1) <| .o (pkTV rfl (nt c1) rfl) <| .nilL _ ⟨.ptr rfl, .ptr rfl, cB rfl (mOrT (bnotT (bn c1))), trivial⟩)
  by_cases c2 : ((!(a0.Gen == a1.Gen)) || ((a0.Rows.length : Int) != (a1.Rows.length : Int))) = true
  · rw [if_pos c2] at h
    refine .condT rfl c2 <| .seq <| .reg0 rfl (.op 0 rfl (asV rfl) <| .nil0) ?_
    replace h := h.symm
    subst h
    refine .kf [(4, bo false)] rfl rfl ?_
    exact .ret rfl
  · rw [if_neg c2] at h
    refine .condF rfl (nb c2) <| .skip <| .seq <| .seq <| .reg0 rfl (.op 0 rfl (asV rfl) <| .nil0) <| .block <| .keepL [0, 1] [(2, .ptr 0 1 2 0 0), (3, .ptr 1 1 2 0 0), (5, i6 0)] [⟨2, [(TFacts.lit a0)], 0, none⟩, ⟨2, [(TFacts.lit a1)], 0, none⟩] (by decide) (by decide) ⟨.ptr rfl, .ptr rfl, .free rfl rfl, trivial⟩ ⟨⟨_, rfl, bcBox (all2_free rfl)⟩, ⟨_, rfl, bcBox (all2_free rfl)⟩, trivial⟩ ?_
    obtain ⟨o1, hL1, h⟩ := h
    refine .loopB (r03_Same.b1 a0 a1) (fun x1 => listEnv [(2, .ptr 0 1 2 0 0), (3, .ptr 1 1 2 0 0), (5, i6 x1)]) (fun x1 => [⟨2, [(TFacts.lit a0)], 0, none⟩, ⟨2, [(TFacts.lit a1)], 0, none⟩]) (fun _ => listEnv []) (fun _ => []) hL1 (fun r_ => r = r_) ?_ ?_ ?_
    · rintro ⟨⟩ rfl
      try dsimp only [Fin.on] at h
      refine .seq <| .reg0 rfl (.op 0 rfl (asV rfl) <| .nil0) ?_
      replace h := h.symm
      subst h
      refine .kf [(4, bo true)] rfl rfl ?_
      exact .ret rfl
    · rintro r_ rfl
      exact h
    · rintro x1 z1 h hn1 hx1 hr1
      dsimp only [r03_Same.b1] at h
      refine .seq <| .seq <| .reg0 rfl (.op 0 rfl (mvV rfl) <| .op 0 rfl (faP fa35_1 rfl) <| .op 0 rfl (ldP rfl sz33 ag33 rfl) <| .op 0 rfl (lnR (l := a0.Rows) sl33 rfl) <| .op 0 rfl (ltI rfl rfl) <| .nil0) ?_
      by_cases c7 : x1 < (a0.Rows.length : Int)
      · rw [if_pos c7] at h
        refine .condT rfl (dt c7) <| .skip <| .seq <| .block <| .seq ?_
        obtain ⟨g14_3, h⟩ := h
        obtain ⟨g14_8, h⟩ := h
        refine .reg1 (e1 := listEnv [(2, .ptr 0 1 2 0 0), (3, .ptr 1 1 2 0 0), (5, i6 x1), (37, bo ((rdl a0.Rows x1) != (rdl a1.Rows x1)))]) (H1 := [⟨2, [(TFacts.lit a0)], 0, none⟩, ⟨2, [(TFacts.lit a1)], 0, none⟩]) rfl ?_ ?_
        · exact .drawM [(10, 37, bo ((rdl a0.Rows x1) != (rdl a1.Rows x1))), (9, 36, u6 (rdl a1.Rows x1)), (8, 35, .cptr ((cInt .u64) (rdl a1.Rows x1)) 0), (7, 34, i6 x1), (6, 33, .rows (a1.Rows.map (cInt .u64))), (5, 32, .ptr 1 1 2 0 1), (4, 31, u6 (rdl a0.Rows x1)), (3, 30, .cptr ((cInt .u64) (rdl a0.Rows x1)) 0), (2, 29, i6 x1), (1, 28, .rows (a0.Rows.map (cInt .u64))), (0, 27, .ptr 0 1 2 0 1)] [] [[], [0], [], [1, 0, 2], [3, 1, 0, 2], [], [5], [], [6, 5, 7], [8, 6, 5, 7], [4, 3, 1, 0, 2, 9, 8, 6, 5, 7]] (by rfl) (by rfl) (by rfl) (by exact ⟨oP (fun _ => faP fa35_1 rfl) rfl, oP (fun _ => ldP rfl sz33 ag33 rfl) rfl, oP (fun _ => mvV rfl) rfl, oP (fun _ => ixR (l := a0.Rows) (lit := (cInt .u64)) sl33 rfl rfl (fun _ => rfl) g14_3.1 g14_3.2) rfl, oP (fun _ => ldC rfl sz32 ag32 rfl) rfl, oP (fun _ => faP fa35_1 rfl) rfl, oP (fun _ => ldP rfl sz33 ag33 rfl) rfl, oP (fun _ => mvV rfl) rfl, oP (fun _ => ixR (l := a1.Rows) (lit := (cInt .u64)) sl33 rfl rfl (fun _ => rfl) g14_8.1 g14_8.2) rfl, oP (fun _ => ldC rfl sz32 ag32 rfl) rfl, oP (fun _ => neI rfl rfl) rfl, trivial⟩) _ (by exact ⟨.ptr rfl, .ptr rfl, .free rfl rfl, .free rfl rfl, trivial⟩) (by rfl)
        by_cases c8 : (rdl a0.Rows x1) = (rdl a1.Rows x1)
        · rw [if_pos c8] at h
          refine .condF rfl (nf c8) <| .skip <| .inBlock <| .reg0 rfl (.op 0 rfl (mvV rfl) <| .op 0 rfl (addI rfl rfl) <| .op 0 rfl (asV rfl) <| .nil0) <| .keepL [0, 1] [(2, .ptr 0 1 2 0 0), (3, .ptr 1 1 2 0 0), (5, i6 (IntKind.i64.wrap (x1 + 1)))] [⟨2, [(TFacts.lit a0)], 0, none⟩, ⟨2, [(TFacts.lit a1)], 0, none⟩] (by decide) (by decide) ⟨.ptr rfl, .ptr rfl, .free rfl rfl, trivial⟩ ⟨⟨_, rfl, bcBox (all2_free rfl)⟩, ⟨_, rfl, bcBox (all2_free rfl)⟩, trivial⟩ ?_
          exact hn1 _ h
        · rw [if_neg c8] at h
          refine .condT rfl (nt c8) <| .seq <| .reg0 rfl (.op 0 rfl (asV rfl) <| .nil0) ?_
          have q3 := hr1 _ h
          replace q3 := q3.symm
          subst q3
          refine .kf [(4, bo false)] rfl rfl ?_
          exact .ret rfl
      · rw [if_neg c7] at h
        refine .condF rfl (df c7) <| .exit rfl <| .keepL [] [] [] (by decide) (by decide) trivial trivial ?_
        exact hx1 _ h
def r03_Check.f (a0 : Int) (a1 : TFacts) (r : Int) : Prop :=
  ∃ t2_1 : Bool, (r03_dim.f a0 t2_1) ∧ if t2_1 = true then (∃ t3_2 : Bool, (r03_shape.f a0 a1 t3_2) ∧ ∃ t3_6 : TFacts, ((t3_2 = true) → r03_canon.f a1 t3_6) ∧ ∃ t3_8 : Bool, ((t3_2 = true) → r03_Same.f t3_6 a1 t3_8) ∧ if ((!t3_2) || (!t3_8)) = true then (r = 30) else (r = 0)) else (r = 31)
abbrev GF_A0 : List (List Nat) := [[], [], [0, 1], [2, 0, 1], [3, 2, 0, 1], [4, 3, 2, 0, 1], [5, 4, 3, 2, 0, 1], [4, 3, 2, 0, 1], [6, 5, 4, 3, 2, 0, 1, 7], [8, 6, 5, 4, 3, 2, 0, 1, 7], [4, 3, 2, 0, 1, 9, 8, 6, 5, 7]]
theorem r03_Check.D {a0 a1 r} (h : r03_Check.f a0 a1 r) : D Tryz.prog X (.callH 91 [.val (.int .i64 a0), .agg (TFacts.lit a1)] [] (.val (.int .i64 r)) []) := by
  unfold r03_Check.f at h
  refine .enter 19 0 fn91 rfl rfl rfl <| .seq <| .room 0 <| .reg0 rfl (.op 0 rfl (bxP (s := 2) (cs := (TFacts.lit a1)) rfl ⟨rfl, by decide, rfl⟩ rfl) <| .op 0 rfl (asV rfl) <| .nil0) <| .seq <| .seq ?_
  obtain ⟨t2_1, g2_1, h⟩ := h
  refine .reg0 rfl (.m rfl <| .c rfl go93 rfl rfl rfl (r03_dim.D g2_1) <| .o (notB rfl) <| .nil0) ?_
  by_cases c1 : t2_1 = true
  · rw [if_pos c1] at h
    refine .condF rfl (bnotF c1) <| .skip <| .seq <| .seq ?_
    obtain ⟨t3_2, g3_2, h⟩ := h
    obtain ⟨t3_6, g3_6, h⟩ := h
    obtain ⟨t3_8, g3_8, h⟩ := h
    refine .reg1 (e1 := listEnv [(18, bo ((!t3_2) || (!t3_8)))]) (H1 := [⟨2, [(TFacts.lit a1)], 0, none⟩]) rfl ?_ ?_
    · by_cases c2 : t3_2 = true
      · exact .drawM [(10, 18, bo (!t3_8)), (9, 17, bo (!t3_8)), (8, 16, bo t3_8), (7, 15, .agg (TFacts.lit a1)), (6, 14, .agg (TFacts.lit t3_6)), (5, 13, .agg (TFacts.lit a1)), (4, 12, bo (!t3_2)), (3, 11, bo (!t3_2)), (2, 10, bo t3_2), (1, 9, .agg (TFacts.lit a1)), (0, 8, i6 a0)] [] GF_A0 (by rfl) (by rfl) (by rfl) (by exact ⟨oP (fun _ => mvV rfl) rfl, oP (fun _ => ldG rfl sz35 ag35 rfl) rfl, fun S hS hD hn => .oneI hS hD hn rfl rfl (callee_of rfl go116 rfl) (.pure rfl rfl (r03_shape.D g3_2)) rfl rfl rfl, oP (fun _ => notB rfl) rfl, oP (fun _ => mvV rfl) rfl, oG rfl (fun _ => rfl) (bnotF c2) (fun _ => ldG rfl sz35 ag35 rfl) rfl, fun S hS hD hn => .oneI hS hD hn (gT rfl rfl rfl (bnotF c2)) rfl (callee_of rfl go85 rfl) (.pure rfl rfl (r03_canon.D (g3_6 c2))) rfl rfl rfl, oG rfl (fun _ => rfl) (bnotF c2) (fun _ => ldG rfl sz35 ag35 rfl) rfl, fun S hS hD hn => .oneI hS hD hn (gT rfl rfl rfl (bnotF c2)) rfl (callee_of rfl go36 rfl) (.pure rfl rfl (r03_Same.D (g3_8 c2))) rfl rfl rfl, oG rfl (fun _ => rfl) (bnotF c2) (fun _ => notB rfl) rfl, oP (fun _ => pkFV rfl (bnotF c2) rfl) rfl, trivial⟩) _ (by exact ⟨cB rfl (mOrF (bnotF c2) rfl), trivial⟩) (by rfl)
      · exact .drawM [(10, 18, bo true), (9, 17, und), (8, 16, und), (7, 15, und), (6, 14, und), (5, 13, und), (4, 12, bo (!t3_2)), (3, 11, bo (!t3_2)), (2, 10, bo t3_2), (1, 9, .agg (TFacts.lit a1)), (0, 8, i6 a0)] [] GF_A0 (by rfl) (by rfl) (by rfl) (by exact ⟨oP (fun _ => mvV rfl) rfl, oP (fun _ => ldG rfl sz35 ag35 rfl) rfl, fun S hS hD hn => .oneI hS hD hn rfl rfl (callee_of rfl go116 rfl) (.pure rfl rfl (r03_shape.D g3_2)) rfl rfl rfl, oP (fun _ => notB rfl) rfl, oP (fun _ => mvV rfl) rfl, oN rfl (fun _ => rfl) (bnotT (nb c2)) rfl, oN rfl (fun _ => rfl) (bnotT (nb c2)) rfl, oN rfl (fun _ => rfl) (bnotT (nb c2)) rfl, oN rfl (fun _ => rfl) (bnotT (nb c2)) rfl, oN rfl (fun _ => rfl) (bnotT (nb c2)) rfl, oP (fun _ => pkTV rfl (bnotT (nb c2)) rfl) rfl, trivial⟩) _ (by exact ⟨cB rfl (mOrT (bnotT (nb c2))), trivial⟩) (by rfl)
    by_cases c3 : ((!t3_2) || (!t3_8)) = true
    · rw [if_pos c3] at h
      refine .condT rfl c3 <| .seq <| .reg0 rfl (.op 0 rfl (asV rfl) <| .nil0) ?_
      replace h := h.symm
      subst h
      refine .kf [(4, i6 30)] rfl rfl ?_
      exact .ret rfl
    · rw [if_neg c3] at h
      refine .condF rfl (nb c3) <| .skip <| .seq <| .reg0 rfl (.op 0 rfl (asV rfl) <| .nil0) ?_
      replace h := h.symm
      subst h
      refine .kf [(4, i6 0)] rfl rfl ?_
      exact .ret rfl
  · rw [if_neg c1] at h
    refine .condT rfl (bnotT (nb c1)) <| .seq <| .reg0 rfl (.op 0 rfl (asV rfl) <| .nil0) ?_
    replace h := h.symm
    subst h
    refine .kf [(4, i6 31)] rfl rfl ?_
    exact .ret rfl
def r05_cell.f (a0 : Int) (a1 : TCell) (r : Bool) : Prop :=
  ∃ t2_3 : Bool, (r03_Inside.f a0 a1.From t2_3) ∧ if t2_3 = true then (if a1.Kind = 0 then (r = (a1.K == 0)) else (if a1.Kind = 1 then (r = true) else (if a1.Kind = 2 then (r = ((a1.K == 0) && (a1.From == 0))) else (r = false)))) else (r = false)
theorem r05_cell.D {a0 a1 r} (h : r05_cell.f a0 a1 r) : D Tryz.prog X (.callH 92 [.val (.int .i64 a0), .agg (TCell.lit a1)] [] (.val (.bool r)) []) := by
  unfold r05_cell.f at h
  refine .enter 29 0 fn92 rfl rfl rfl <| .seq <| .room 0 <| .reg0 rfl (.op 0 rfl (bxP (s := 3) (cs := (TCell.lit a1)) rfl ⟨rfl, by decide, rfl⟩ rfl) <| .op 0 rfl (asV rfl) <| .nil0) <| .seq <| .seq ?_
  obtain ⟨t2_3, g2_3, h⟩ := h
  refine .reg0 rfl (.m rfl <| .o (faP fa81_0 rfl) <| .o (ldP rfl sz32 ag32 rfl) <| .c rfl go117 rfl rfl rfl (r03_Inside.D g2_3) <| .o (notB rfl) <| .nil0) ?_
  by_cases c1 : t2_3 = true
  · rw [if_pos c1] at h
    refine .condF rfl (bnotF c1) <| .skip <| .seq <| .seq <| .reg0 rfl (.op 0 rfl (faP fa81_1 rfl) <| .op 0 rfl (ldP rfl sz79 ag79 rfl) <| .nil0) <| .block <| .seq <| .reg0 rfl (.op 0 rfl (eqI rfl rfl) <| .op 0 rfl (asV rfl) <| .nil0) ?_
    by_cases c2 : a1.Kind = 0
    · rw [if_pos c2] at h
      refine .condT rfl (bt c2) <| .seq <| .reg0 rfl (.op 0 rfl (faP fa81_2 rfl) <| .op 0 rfl (ldP rfl sz2 ag2 rfl) <| .op 0 rfl (eqI rfl rfl) <| .op 0 rfl (asV rfl) <| .nil0) ?_
      replace h := h.symm
      subst h
      refine .kf [(4, bo (a1.K == 0))] rfl rfl ?_
      exact .ret rfl
    · rw [if_neg c2] at h
      refine .condF rfl (bn c2) <| .seq <| .reg0 rfl (.op 0 rfl (eqI rfl rfl) <| .op 0 rfl (asV rfl) <| .nil0) ?_
      by_cases c3 : a1.Kind = 1
      · rw [if_pos c3] at h
        refine .condT rfl (bt c3) <| .seq <| .reg0 rfl (.op 0 rfl (asV rfl) <| .nil0) ?_
        replace h := h.symm
        subst h
        refine .kf [(4, bo true)] rfl rfl ?_
        exact .ret rfl
      · rw [if_neg c3] at h
        refine .condF rfl (bn c3) <| .seq <| .reg0 rfl (.op 0 rfl (eqI rfl rfl) <| .op 0 rfl (asV rfl) <| .nil0) ?_
        by_cases c4 : a1.Kind = 2
        · rw [if_pos c4] at h
          refine .condT rfl (bt c4) <| .seq ?_
          refine .reg0 (e1 := listEnv [(4, bo ((a1.K == 0) && (a1.From == 0)))]) (H1 := [⟨3, [(TCell.lit a1)], 0, none⟩]) rfl ?_ ?_
          · refine .o (faP fa81_2 rfl) <| .o (ldP rfl sz2 ag2 rfl) <| .o (eqI rfl rfl) <| .m rfl <| ?_
            by_cases c5 : a1.K = 0
            · exact (.g rfl (bt c5) (faP fa81_0 rfl) <| .g rfl (bt c5) (ldP rfl sz32 ag32 rfl) <| .g rfl (bt c5) (eqI rfl rfl) <| .o (pkTV rfl (bt c5) rfl) <| .a rfl <| .nilL _ ⟨cB rfl (mAndT (bt c5) rfl), trivial⟩)
            · exact (.n rfl (bn c5) <| .n rfl (bn c5) <| .n rfl (bn c5) <| .o (pkFV rfl (bn c5) rfl) <| .a rfl <| .nilL _ ⟨cB rfl (mAndF (bn c5)), trivial⟩)
          replace h := h.symm
          subst h
          refine .kf [(4, bo ((a1.K == 0) && (a1.From == 0)))] rfl rfl ?_
          exact .ret rfl
        · rw [if_neg c4] at h
          refine .condF rfl (bn c4) <| .skip <| .inBlock <| .seq <| .reg0 rfl (.op 0 rfl (asV rfl) <| .nil0) ?_
          replace h := h.symm
          subst h
          refine .kf [(4, bo false)] rfl rfl ?_
          exact .ret rfl
  · rw [if_neg c1] at h
    refine .condT rfl (bnotT (nb c1)) <| .seq <| .reg0 rfl (.op 0 rfl (asV rfl) <| .nil0) ?_
    replace h := h.symm
    subst h
    refine .kf [(4, bo false)] rfl rfl ?_
    exact .ret rfl
def r05_is.b1 (a0 : TSpace) (a1 : TWeight) : Int → Rnd Int Unit Bool → Prop := fun x1 z1 => if x1 < (a1.Cells.length : Int) then (((InR x1 a1.Cells.length)) ∧ ∃ t24_7 : Bool, (r05_cell.f a0.Dim (rdl a1.Cells x1) t24_7) ∧ if t24_7 = true then (z1 = .next (IntKind.i64.wrap (x1 + 1))) else (z1 = .ret false)) else (z1 = .exit ())
def r05_is.step (self60 : TSpace → TWeight → Bool → Prop) (a0 : TSpace) (a1 : TWeight) (r : Bool) : Prop :=
  if a1.Zero = true then (∃ t3_5 : Bool, (¬ (a0.Tag = 5) → r05_plain.f a1 false false false false t3_5) ∧ r = ((!(a0.Tag == 5)) && t3_5)) else (if a0.Tag = 1 then (∃ t6_1 : Bool, (r05_plain.f a1 false false false false t6_1) ∧ r = t6_1) else (if a0.Tag = 2 then (∃ t8_1 : Bool, (r05_plain.f a1 true false false false t8_1) ∧ r = (t8_1 && ((decide (a1.Cost ≥ 0)) && (decide (a1.Cost ≤ a0.Dim))))) else (if a0.Tag = 3 then (∃ t10_1 : Bool, (r05_plain.f a1 false true false false t10_1) ∧ ∃ t10_7 : Int, ((t10_1 = true) → r03_Check.f a0.Dim a1.Facts t10_7) ∧ r = (t10_1 && (t10_7 == 0))) else (if a0.Tag = 4 then (∃ t12_1 : Bool, (r05_plain.f a1 false false true false t12_1) ∧ if ((!t12_1) || ((a1.Cells.length : Int) != a0.Dim)) = true then (r = false) else (∃ o1 : Fin Unit Bool, Loop (r05_is.b1 a0 a1) 0 o1 ∧ o1.on (fun _ => r = true) (fun r_ => r = r_))) else (∃ t28_1 : Bool, (r05_plain.f a1 false false false true t28_1) ∧ ((t28_1 = true) → ((a1.Parts.length : Int) = 2) → (InR 0 a0.Parts.length)) ∧ ((t28_1 = true) → ((a1.Parts.length : Int) = 2) → (InR 0 a1.Parts.length)) ∧ ∃ t28_17 : Bool, ((t28_1 = true) → ((a1.Parts.length : Int) = 2) → self60 (rdl a0.Parts 0) (rdl a1.Parts 0) t28_17) ∧ ((t28_1 = true) → ((a1.Parts.length : Int) = 2) → (t28_17 = true) → (InR 1 a0.Parts.length)) ∧ ((t28_1 = true) → ((a1.Parts.length : Int) = 2) → (t28_17 = true) → (InR 1 a1.Parts.length)) ∧ ∃ t28_28 : Bool, ((t28_1 = true) → ((a1.Parts.length : Int) = 2) → (t28_17 = true) → self60 (rdl a0.Parts 1) (rdl a1.Parts 1) t28_28) ∧ r = (t28_1 && (((a1.Parts.length : Int) == 2) && (t28_17 && t28_28))))))))
abbrev GF_A1 : List (List Nat) := [[], [0], [1, 0], [2, 1, 0], [3, 2, 1, 0], [4, 3, 2, 1, 0], [5, 4, 3, 2, 1, 0], [2, 1, 0, 6, 5, 4, 3], [7, 2, 1, 0, 6, 5, 4, 3], [8, 7, 2, 1, 0, 6, 5, 4, 3], [9, 8, 7, 2, 1, 0, 6, 5, 4, 3], [10, 9, 8, 7, 2, 1, 0, 6, 5, 4, 3], [11, 10, 9, 8, 7, 2, 1, 0, 6, 5, 4, 3], [8, 7, 2, 1, 0, 6, 5, 4, 3], [13, 8, 7, 2, 1, 0, 6, 5, 4, 3], [14, 13, 8, 7, 2, 1, 0, 6, 5, 4, 3], [15, 14, 13, 8, 7, 2, 1, 0, 6, 5, 4, 3], [12, 11, 10, 9, 8, 7, 2, 1, 0, 6, 5, 4, 3, 16, 15, 14, 13], [8, 7, 2, 1, 0, 6, 5, 4, 3, 17, 12, 11, 10, 9, 16, 15, 14, 13], [18, 8, 7, 2, 1, 0, 6, 5, 4, 3, 17, 12, 11, 10, 9, 16, 15, 14, 13], [19, 18, 8, 7, 2, 1, 0, 6, 5, 4, 3, 17, 12, 11, 10, 9, 16, 15, 14, 13], [20, 19, 18, 8, 7, 2, 1, 0, 6, 5, 4, 3, 17, 12, 11, 10, 9, 16, 15, 14, 13], [21, 20, 19, 18, 8, 7, 2, 1, 0, 6, 5, 4, 3, 17, 12, 11, 10, 9, 16, 15, 14, 13], [22, 21, 20, 19, 18, 8, 7, 2, 1, 0, 6, 5, 4, 3, 17, 12, 11, 10, 9, 16, 15, 14, 13], [19, 18, 8, 7, 2, 1, 0, 6, 5, 4, 3, 17, 12, 11, 10, 9, 16, 15, 14, 13], [24, 19, 18, 8, 7, 2, 1, 0, 6, 5, 4, 3, 17, 12, 11, 10, 9, 16, 15, 14, 13], [25, 24, 19, 18, 8, 7, 2, 1, 0, 6, 5, 4, 3, 17, 12, 11, 10, 9, 16, 15, 14, 13], [26, 25, 24, 19, 18, 8, 7, 2, 1, 0, 6, 5, 4, 3, 17, 12, 11, 10, 9, 16, 15, 14, 13], [23, 22, 21, 20, 19, 18, 8, 7, 2, 1, 0, 6, 5, 4, 3, 17, 12, 11, 10, 9, 16, 15, 14, 13, 27, 26, 25, 24], [19, 18, 8, 7, 2, 1, 0, 6, 5, 4, 3, 17, 12, 11, 10, 9, 16, 15, 14, 13, 28, 23, 22, 21, 20, 27, 26, 25, 24], [29, 19, 18, 8, 7, 2, 1, 0, 6, 5, 4, 3, 17, 12, 11, 10, 9, 16, 15, 14, 13, 28, 23, 22, 21, 20, 27, 26, 25, 24]]
theorem r05_is.stepD {self60 : TSpace → TWeight → Bool → Prop} {a0 : TSpace} {a1 : TWeight} (hs60 : ∀ z0_ z1_ r_, self60 z0_ z1_ r_ → D Tryz.prog X (.callH 60 [.agg (TSpace.lit z0_), .agg (TWeight.lit z1_)] [] (.val (.bool r_)) [])) {r : Bool} (h : r05_is.step self60 a0 a1 r) : D Tryz.prog X (.callH 60 [.agg (TSpace.lit a0), .agg (TWeight.lit a1)] [] (.val (.bool r)) []) := by
  unfold r05_is.step at h
  refine .enter 108 0 fn60 rfl rfl rfl <| .seq <| .room 0 <| .room 0 <| .reg0 rfl (.op 0 rfl (bxP (s := 3) (cs := (TSpace.lit a0)) rfl ⟨rfl, by decide, rfl⟩ rfl) <| .op 1 rfl (bxP (s := 6) (cs := (TWeight.lit a1)) rfl ⟨rfl, by decide, rfl⟩ rfl) <| .op 0 rfl (asV rfl) <| .nil0) <| .seq <| .seq <| .reg0 rfl (.op 0 rfl (faP fa39_0 rfl) <| .op 0 rfl (ldP rfl sz4 ag4 rfl) <| .nil0) ?_
  by_cases c1 : a1.Zero = true
  · rw [if_pos c1] at h
    refine .condT rfl c1 <| .seq ?_
    obtain ⟨t3_5, g3_5, h⟩ := h
    refine .reg0 (e1 := listEnv [(4, bo ((!(a0.Tag == 5)) && t3_5))]) (H1 := [⟨3, [(TSpace.lit a0)], 0, none⟩, ⟨6, [(TWeight.lit a1)], 0, none⟩]) rfl ?_ ?_
    · refine .o (faP fa25_0 rfl) <| .o (ldP rfl sz22 ag22 rfl) <| .o (neI rfl rfl) <| .m rfl <| ?_
      by_cases c2 : a0.Tag = 5
      · exact (.n rfl (nf c2) <| .n rfl (nf c2) <| .o (pkFV rfl (nf c2) rfl) <| .a rfl <| .nilL _ ⟨cB rfl (mAndF (bnotF (bt c2))), trivial⟩)
      · exact (.g rfl (nt c2) (ldG rfl sz39 ag39 rfl) <| .callI (gT rfl rfl rfl (nt c2)) (callee_of rfl go90 rfl) (.pure rfl rfl (r05_plain.D (g3_5 c2))) <| .o (pkTV rfl (nt c2) rfl) <| .a rfl <| .nilL _ ⟨cB rfl (mAndT (bnotT (bn c2)) rfl), trivial⟩)
    replace h := h.symm
    subst h
    refine .kf [(4, bo ((!(a0.Tag == 5)) && t3_5))] rfl rfl ?_
    exact .ret rfl
  · rw [if_neg c1] at h
    refine .condF rfl (nb c1) <| .skip <| .seq <| .seq <| .reg0 rfl (.op 0 rfl (faP fa25_0 rfl) <| .op 0 rfl (ldP rfl sz22 ag22 rfl) <| .nil0) <| .block <| .seq <| .reg0 rfl (.op 0 rfl (eqI rfl rfl) <| .op 0 rfl (asV rfl) <| .nil0) ?_
    by_cases c3 : a0.Tag = 1
    · rw [if_pos c3] at h
      refine .condT rfl (bt c3) <| .seq ?_
      obtain ⟨t6_1, g6_1, h⟩ := h
      refine .reg0 rfl (.o (ldG rfl sz39 ag39 rfl) <| .c rfl go90 rfl rfl rfl (r05_plain.D g6_1) <| .a rfl <| .nil0) ?_
      replace h := h.symm
      subst h
      refine .kf [(4, bo t6_1)] rfl rfl ?_
      exact .ret rfl
    · rw [if_neg c3] at h
      refine .condF rfl (bn c3) <| .seq <| .reg0 rfl (.op 0 rfl (eqI rfl rfl) <| .op 0 rfl (asV rfl) <| .nil0) ?_
      by_cases c4 : a0.Tag = 2
      · rw [if_pos c4] at h
        refine .condT rfl (bt c4) <| .seq ?_
        obtain ⟨t8_1, g8_1, h⟩ := h
        refine .reg0 (e1 := listEnv [(4, bo (t8_1 && ((decide (a1.Cost ≥ 0)) && (decide (a1.Cost ≤ a0.Dim)))))]) (H1 := [⟨3, [(TSpace.lit a0)], 0, none⟩, ⟨6, [(TWeight.lit a1)], 0, none⟩]) rfl ?_ ?_
        · refine .o (ldG rfl sz39 ag39 rfl) <| .c rfl go90 rfl rfl rfl (r05_plain.D g8_1) <| .m rfl <| ?_
          by_cases c5 : t8_1 = true
          · refine .g rfl c5 (faP fa39_1 rfl) <| .g rfl c5 (ldP rfl sz3 ag3 rfl) <| .g rfl c5 (geI rfl rfl) <| .o (pkTV rfl c5 rfl) <| .m rfl <| ?_
            by_cases c6 : a1.Cost ≥ 0
            · exact (.g rfl (dt c6) (faP fa39_1 rfl) <| .g rfl (dt c6) (ldP rfl sz3 ag3 rfl) <| .g rfl (dt c6) (faP fa25_1 rfl) <| .g rfl (dt c6) (ldP rfl sz3 ag3 rfl) <| .g rfl (dt c6) (leI rfl rfl) <| .o (pkTV rfl (dt c6) rfl) <| .a rfl <| .nilL _ ⟨cB rfl (mAndT c5 (mAndT (dt c6) rfl)), trivial⟩)
            · exact (.n rfl (df c6) <| .n rfl (df c6) <| .n rfl (df c6) <| .n rfl (df c6) <| .n rfl (df c6) <| .o (pkFV rfl (df c6) rfl) <| .a rfl <| .nilL _ ⟨cB rfl (mAndT c5 (mAndF (df c6))), trivial⟩)
          · exact (.n rfl (nb c5) <| .n rfl (nb c5) <| .n rfl (nb c5) <| .o (pkFV rfl (nb c5) rfl) <| .m rfl <| .n rfl rfl <| .n rfl rfl <| .n rfl rfl <| .n rfl rfl <| .n rfl rfl <| .o (pkFV rfl rfl rfl) <| .a rfl <| .nilL _ ⟨cB rfl (mAndF (nb c5)), trivial⟩)
        replace h := h.symm
        subst h
        refine .kf [(4, bo (t8_1 && ((decide (a1.Cost ≥ 0)) && (decide (a1.Cost ≤ a0.Dim)))))] rfl rfl ?_
        exact .ret rfl
      · rw [if_neg c4] at h
        refine .condF rfl (bn c4) <| .seq <| .reg0 rfl (.op 0 rfl (eqI rfl rfl) <| .op 0 rfl (asV rfl) <| .nil0) ?_
        by_cases c7 : a0.Tag = 3
        · rw [if_pos c7] at h
          refine .condT rfl (bt c7) <| .seq ?_
          obtain ⟨t10_1, g10_1, h⟩ := h
          obtain ⟨t10_7, g10_7, h⟩ := h
          refine .reg0 (e1 := listEnv [(4, bo (t10_1 && (t10_7 == 0)))]) (H1 := [⟨3, [(TSpace.lit a0)], 0, none⟩, ⟨6, [(TWeight.lit a1)], 0, none⟩]) rfl ?_ ?_
          · refine .o (ldG rfl sz39 ag39 rfl) <| .c rfl go90 rfl rfl rfl (r05_plain.D g10_1) <| .m rfl <| ?_
            by_cases c8 : t10_1 = true
            · exact (.g rfl c8 (faP fa25_1 rfl) <| .g rfl c8 (ldP rfl sz3 ag3 rfl) <| .g rfl c8 (faP fa39_2 rfl) <| .g rfl c8 (ldG rfl sz35 ag35 rfl) <| .callI (gT rfl rfl rfl c8) (callee_of rfl go91 rfl) (.pure rfl rfl (r03_Check.D (g10_7 c8))) <| .g rfl c8 (eqI rfl rfl) <| .o (pkTV rfl c8 rfl) <| .a rfl <| .nilL _ ⟨cB rfl (mAndT c8 rfl), trivial⟩)
            · exact (.n rfl (nb c8) <| .n rfl (nb c8) <| .n rfl (nb c8) <| .n rfl (nb c8) <| .n rfl (nb c8) <| .n rfl (nb c8) <| .o (pkFV rfl (nb c8) rfl) <| .a rfl <| .nilL _ ⟨cB rfl (mAndF (nb c8)), trivial⟩)
          replace h := h.symm
          subst h
          refine .kf [(4, bo (t10_1 && (t10_7 == 0)))] rfl rfl ?_
          exact .ret rfl
        · rw [if_neg c7] at h
          refine .condF rfl (bn c7) <| .seq <| .reg0 rfl (.op 0 rfl (eqI rfl rfl) <| .op 0 rfl (asV rfl) <| .nil0) ?_
          by_cases c9 : a0.Tag = 4
          · rw [if_pos c9] at h
            refine .condT rfl (bt c9) <| .seq <| .seq ?_
            obtain ⟨t12_1, g12_1, h⟩ := h
            refine .reg0 (e1 := listEnv [(2, .ptr 0 1 3 0 0), (3, .ptr 1 1 6 0 0), (61, bo ((!t12_1) || ((a1.Cells.length : Int) != a0.Dim)))]) (H1 := [⟨3, [(TSpace.lit a0)], 0, none⟩, ⟨6, [(TWeight.lit a1)], 0, none⟩]) rfl ?_ ?_
            · refine .o (ldG rfl sz39 ag39 rfl) <| .c rfl go90 rfl rfl rfl (r05_plain.D g12_1) <| .o (notB rfl) <| .m rfl <| ?_
              by_cases c10 : t12_1 = true
              · exact (.g rfl (bnotF c10) (faP fa39_3 rfl) <| .g rfl (bnotF c10) (ldP rfl sz36 ag36 rfl) <| .g rfl (bnotF c10) (lnR (l := a1.Cells) sl36 rfl) <| .g rfl (bnotF c10) (faP fa25_1 rfl) <| .g rfl (bnotF c10) (ldP rfl sz3 ag3 rfl) <| .g rfl (bnotF c10) (neI rfl rfl) <| .o (pkFV rfl (bnotF c10) rfl) <| .nilL _ ⟨.ptr rfl, .ptr rfl, cB rfl (mOrF (bnotF c10) rfl), trivial⟩)
              · exact (.n rfl (bnotT (nb c10)) <| .n rfl (bnotT (nb c10)) <| .n rfl (bnotT (nb c10)) <| .n rfl (bnotT (nb c10)) <| .n rfl (bnotT (nb c10)) <| .n rfl (bnotT (nb c10)) <| .o (pkTV rfl (bnotT (nb c10)) rfl) <| .nilL _ ⟨.ptr rfl, .ptr rfl, cB rfl (mOrT (bnotT (nb c10))), trivial⟩)
            by_cases c11 : ((!t12_1) || ((a1.Cells.length : Int) != a0.Dim)) = true
            · rw [if_pos c11] at h
              refine .condT rfl c11 <| .seq <| .reg0 rfl (.op 0 rfl (asV rfl) <| .nil0) ?_
              replace h := h.symm
              subst h
              refine .kf [(4, bo false)] rfl rfl ?_
              exact .ret rfl
            · rw [if_neg c11] at h
              refine .condF rfl (nb c11) <| .skip <| .seq <| .seq <| .reg0 rfl (.op 0 rfl (asV rfl) <| .nil0) <| .block <| .keepL [0, 1] [(2, .ptr 0 1 3 0 0), (3, .ptr 1 1 6 0 0), (5, i6 0)] [⟨3, [(TSpace.lit a0)], 0, none⟩, ⟨6, [(TWeight.lit a1)], 0, none⟩] (by decide) (by decide) ⟨.ptr rfl, .ptr rfl, .free rfl rfl, trivial⟩ ⟨⟨_, rfl, bcBox (all2_free rfl)⟩, ⟨_, rfl, bcBox (all2_free rfl)⟩, trivial⟩ ?_
              obtain ⟨o1, hL1, h⟩ := h
              refine .loopB (r05_is.b1 a0 a1) (fun x1 => listEnv [(2, .ptr 0 1 3 0 0), (3, .ptr 1 1 6 0 0), (5, i6 x1)]) (fun x1 => [⟨3, [(TSpace.lit a0)], 0, none⟩, ⟨6, [(TWeight.lit a1)], 0, none⟩]) (fun _ => listEnv []) (fun _ => []) hL1 (fun r_ => r = r_) ?_ ?_ ?_
              · rintro ⟨⟩ rfl
                try dsimp only [Fin.on] at h
                refine .seq <| .reg0 rfl (.op 0 rfl (asV rfl) <| .nil0) ?_
                replace h := h.symm
                subst h
                refine .kf [(4, bo true)] rfl rfl ?_
                exact .ret rfl
              · rintro r_ rfl
                exact h
              · rintro x1 z1 h hn1 hx1 hr1
                dsimp only [r05_is.b1] at h
                refine .seq <| .seq <| .reg0 rfl (.op 0 rfl (mvV rfl) <| .op 0 rfl (faP fa39_3 rfl) <| .op 0 rfl (ldP rfl sz36 ag36 rfl) <| .op 0 rfl (lnR (l := a1.Cells) sl36 rfl) <| .op 0 rfl (ltI rfl rfl) <| .nil0) ?_
                by_cases c16 : x1 < (a1.Cells.length : Int)
                · rw [if_pos c16] at h
                  refine .condT rfl (dt c16) <| .skip <| .seq <| .block <| .seq ?_
                  obtain ⟨g24_5, h⟩ := h
                  obtain ⟨t24_7, g24_7, h⟩ := h
                  refine .reg1 (e1 := listEnv [(2, .ptr 0 1 3 0 0), (3, .ptr 1 1 6 0 0), (5, i6 x1), (77, bo (!t24_7))]) (H1 := [⟨3, [(TSpace.lit a0)], 0, none⟩, ⟨6, [(TWeight.lit a1)], 0, none⟩]) rfl ?_ ?_
                  · exact .drawM [(8, 77, bo (!t24_7)), (7, 76, bo t24_7), (6, 75, .agg (TCell.lit (rdl a1.Cells x1))), (5, 74, .cptr (TCell.lit (rdl a1.Cells x1)) 0), (4, 73, i6 x1), (3, 72, .rows (a1.Cells.map TCell.cells)), (2, 71, .ptr 1 1 6 0 4), (1, 70, i6 a0.Dim), (0, 69, .ptr 0 1 3 0 1)] [] [[], [0], [], [2], [], [3, 2, 4], [5, 3, 2, 4], [1, 0, 6, 5, 3, 2, 4], [7, 1, 0, 6, 5, 3, 2, 4]] (by rfl) (by rfl) (by rfl) (by exact ⟨oP (fun _ => faP fa25_1 rfl) rfl, oP (fun _ => ldP rfl sz3 ag3 rfl) rfl, oP (fun _ => faP fa39_3 rfl) rfl, oP (fun _ => ldP rfl sz36 ag36 rfl) rfl, oP (fun _ => mvV rfl) rfl, oP (fun _ => ixR (l := a1.Cells) (lit := TCell.lit) sl36 rfl rfl (fun _ => rfl) g24_5.1 g24_5.2) rfl, oP (fun _ => ldCG rfl sz81 ag81 rfl) rfl, fun S hS hD hn => .oneI hS hD hn rfl rfl (callee_of rfl go92 rfl) (.pure rfl rfl (r05_cell.D g24_7)) rfl rfl rfl, oP (fun _ => notB rfl) rfl, trivial⟩) _ (by exact ⟨.ptr rfl, .ptr rfl, .free rfl rfl, .free rfl rfl, trivial⟩) (by rfl)
                  by_cases c17 : t24_7 = true
                  · rw [if_pos c17] at h
                    refine .condF rfl (bnotF c17) <| .skip <| .inBlock <| .reg0 rfl (.op 0 rfl (mvV rfl) <| .op 0 rfl (addI rfl rfl) <| .op 0 rfl (asV rfl) <| .nil0) <| .keepL [0, 1] [(2, .ptr 0 1 3 0 0), (3, .ptr 1 1 6 0 0), (5, i6 (IntKind.i64.wrap (x1 + 1)))] [⟨3, [(TSpace.lit a0)], 0, none⟩, ⟨6, [(TWeight.lit a1)], 0, none⟩] (by decide) (by decide) ⟨.ptr rfl, .ptr rfl, .free rfl rfl, trivial⟩ ⟨⟨_, rfl, bcBox (all2_free rfl)⟩, ⟨_, rfl, bcBox (all2_free rfl)⟩, trivial⟩ ?_
                    exact hn1 _ h
                  · rw [if_neg c17] at h
                    refine .condT rfl (bnotT (nb c17)) <| .seq <| .reg0 rfl (.op 0 rfl (asV rfl) <| .nil0) ?_
                    have q3 := hr1 _ h
                    replace q3 := q3.symm
                    subst q3
                    refine .kf [(4, bo false)] rfl rfl ?_
                    exact .ret rfl
                · rw [if_neg c16] at h
                  refine .condF rfl (df c16) <| .exit rfl <| .keepL [] [] [] (by decide) (by decide) trivial trivial ?_
                  exact hx1 _ h
          · rw [if_neg c9] at h
            refine .condF rfl (bn c9) <| .skip <| .inBlock <| .seq ?_
            obtain ⟨t28_1, g28_1, h⟩ := h
            obtain ⟨g28_11, h⟩ := h
            obtain ⟨g28_15, h⟩ := h
            obtain ⟨t28_17, g28_17, h⟩ := h
            obtain ⟨g28_22, h⟩ := h
            obtain ⟨g28_26, h⟩ := h
            obtain ⟨t28_28, g28_28, h⟩ := h
            refine .reg1 (e1 := listEnv [(4, bo (t28_1 && (((a1.Parts.length : Int) == 2) && (t28_17 && t28_28))))]) (H1 := [⟨3, [(TSpace.lit a0)], 0, none⟩, ⟨6, [(TWeight.lit a1)], 0, none⟩]) rfl ?_ ?_
            · by_cases c18 : t28_1 = true
              · by_cases c19 : (a1.Parts.length : Int) = 2
                · by_cases c20 : t28_17 = true
                  · exact .drawM [(30, 4, bo t28_28), (29, 107, bo t28_28), (28, 106, bo t28_28), (27, 105, .agg (TWeight.lit (rdl a1.Parts 1))), (26, 104, .cptr (TWeight.lit (rdl a1.Parts 1)) 0), (25, 103, .rows (a1.Parts.map TWeight.cells)), (24, 102, .ptr 1 1 6 0 5), (23, 101, .agg (TSpace.lit (rdl a0.Parts 1))), (22, 100, .cptr (TSpace.lit (rdl a0.Parts 1)) 0), (21, 99, .rows (a0.Parts.map TSpace.cells)), (20, 98, .ptr 0 1 3 0 2), (19, 97, bo t28_17), (18, 96, bo t28_17), (17, 95, bo t28_17), (16, 94, .agg (TWeight.lit (rdl a1.Parts 0))), (15, 93, .cptr (TWeight.lit (rdl a1.Parts 0)) 0), (14, 92, .rows (a1.Parts.map TWeight.cells)), (13, 91, .ptr 1 1 6 0 5), (12, 90, .agg (TSpace.lit (rdl a0.Parts 0))), (11, 89, .cptr (TSpace.lit (rdl a0.Parts 0)) 0), (10, 88, .rows (a0.Parts.map TSpace.cells)), (9, 87, .ptr 0 1 3 0 2), (8, 86, bo ((a1.Parts.length : Int) == 2)), (7, 85, bo ((a1.Parts.length : Int) == 2)), (6, 84, bo ((a1.Parts.length : Int) == 2)), (5, 83, i6 (a1.Parts.length : Int)), (4, 82, .rows (a1.Parts.map TWeight.cells)), (3, 81, .ptr 1 1 6 0 5), (2, 80, bo t28_1), (1, 79, bo t28_1), (0, 78, .agg (TWeight.lit a1))] [] GF_A1 (by rfl) (by rfl) (by rfl) (by exact ⟨oP (fun _ => ldG rfl sz39 ag39 rfl) rfl, fun S hS hD hn => .oneI hS hD hn rfl rfl (callee_of rfl go90 rfl) (.pure rfl rfl (r05_plain.D g28_1)) rfl rfl rfl, oP (fun _ => mvV rfl) rfl, oG rfl (fun _ => rfl) c18 (fun _ => faP fa39_4 rfl) rfl, oG rfl (fun _ => rfl) c18 (fun _ => ldP rfl sz37 ag37 rfl) rfl, oG rfl (fun _ => rfl) c18 (fun _ => lnR (l := a1.Parts) sl37 rfl) rfl, oG rfl (fun _ => rfl) c18 (fun _ => eqI rfl rfl) rfl, oP (fun _ => pkTV rfl c18 rfl) rfl, oP (fun _ => mvV rfl) rfl, oG rfl (fun _ => rfl) (bt c19) (fun _ => faP fa25_2 rfl) rfl, oG rfl (fun _ => rfl) (bt c19) (fun _ => ldP rfl sz23 ag23 rfl) rfl, oG rfl (fun _ => rfl) (bt c19) (fun _ => ixR (l := a0.Parts) (lit := TSpace.lit) sl23 rfl rfl TSpace.cells_lit (g28_11 c18 c19).1 (g28_11 c18 c19).2) rfl, oG rfl (fun _ => rfl) (bt c19) (fun _ => ldCG rfl sz25 ag25 rfl) rfl, oG rfl (fun _ => rfl) (bt c19) (fun _ => faP fa39_4 rfl) rfl, oG rfl (fun _ => rfl) (bt c19) (fun _ => ldP rfl sz37 ag37 rfl) rfl, oG rfl (fun _ => rfl) (bt c19) (fun _ => ixR (l := a1.Parts) (lit := TWeight.lit) sl37 rfl rfl TWeight.cells_lit (g28_15 c18 c19).1 (g28_15 c18 c19).2) rfl, oG rfl (fun _ => rfl) (bt c19) (fun _ => ldCG rfl sz39 ag39 rfl) rfl, fun S hS hD hn => .oneI hS hD hn (gT rfl rfl rfl (bt c19)) rfl (callee_of rfl go60 rfl) (.pure rfl rfl (hs60 _ _ _ (g28_17 c18 c19))) rfl rfl rfl, oP (fun _ => pkTV rfl (bt c19) rfl) rfl, oP (fun _ => mvV rfl) rfl, oG rfl (fun _ => rfl) c20 (fun _ => faP fa25_2 rfl) rfl, oG rfl (fun _ => rfl) c20 (fun _ => ldP rfl sz23 ag23 rfl) rfl, oG rfl (fun _ => rfl) c20 (fun _ => ixR (l := a0.Parts) (lit := TSpace.lit) sl23 rfl rfl TSpace.cells_lit (g28_22 c18 c19 c20).1 (g28_22 c18 c19 c20).2) rfl, oG rfl (fun _ => rfl) c20 (fun _ => ldCG rfl sz25 ag25 rfl) rfl, oG rfl (fun _ => rfl) c20 (fun _ => faP fa39_4 rfl) rfl, oG rfl (fun _ => rfl) c20 (fun _ => ldP rfl sz37 ag37 rfl) rfl, oG rfl (fun _ => rfl) c20 (fun _ => ixR (l := a1.Parts) (lit := TWeight.lit) sl37 rfl rfl TWeight.cells_lit (g28_26 c18 c19 c20).1 (g28_26 c18 c19 c20).2) rfl, oG rfl (fun _ => rfl) c20 (fun _ => ldCG rfl sz39 ag39 rfl) rfl, fun S hS hD hn => .oneI hS hD hn (gT rfl rfl rfl c20) rfl (callee_of rfl go60 rfl) (.pure rfl rfl (hs60 _ _ _ (g28_28 c18 c19 c20))) rfl rfl rfl, oP (fun _ => pkTV rfl c20 rfl) rfl, oP (fun _ => asV rfl) rfl, trivial⟩) _ (by exact ⟨cB rfl (mAndT c18 (mAndT (bt c19) (mAndT c20 rfl))), trivial⟩) (by rfl)
                  · exact .drawM [(30, 4, bo false), (29, 107, bo false), (28, 106, und), (27, 105, und), (26, 104, und), (25, 103, und), (24, 102, und), (23, 101, und), (22, 100, und), (21, 99, und), (20, 98, und), (19, 97, bo t28_17), (18, 96, bo t28_17), (17, 95, bo t28_17), (16, 94, .agg (TWeight.lit (rdl a1.Parts 0))), (15, 93, .cptr (TWeight.lit (rdl a1.Parts 0)) 0), (14, 92, .rows (a1.Parts.map TWeight.cells)), (13, 91, .ptr 1 1 6 0 5), (12, 90, .agg (TSpace.lit (rdl a0.Parts 0))), (11, 89, .cptr (TSpace.lit (rdl a0.Parts 0)) 0), (10, 88, .rows (a0.Parts.map TSpace.cells)), (9, 87, .ptr 0 1 3 0 2), (8, 86, bo ((a1.Parts.length : Int) == 2)), (7, 85, bo ((a1.Parts.length : Int) == 2)), (6, 84, bo ((a1.Parts.length : Int) == 2)), (5, 83, i6 (a1.Parts.length : Int)), (4, 82, .rows (a1.Parts.map TWeight.cells)), (3, 81, .ptr 1 1 6 0 5), (2, 80, bo t28_1), (1, 79, bo t28_1), (0, 78, .agg (TWeight.lit a1))] [] GF_A1 (by rfl) (by rfl) (by rfl) (by exact ⟨oP (fun _ => ldG rfl sz39 ag39 rfl) rfl, fun S hS hD hn => .oneI hS hD hn rfl rfl (callee_of rfl go90 rfl) (.pure rfl rfl (r05_plain.D g28_1)) rfl rfl rfl, oP (fun _ => mvV rfl) rfl, oG rfl (fun _ => rfl) c18 (fun _ => faP fa39_4 rfl) rfl, oG rfl (fun _ => rfl) c18 (fun _ => ldP rfl sz37 ag37 rfl) rfl, oG rfl (fun _ => rfl) c18 (fun _ => lnR (l := a1.Parts) sl37 rfl) rfl, oG rfl (fun _ => rfl) c18 (fun _ => eqI rfl rfl) rfl, oP (fun _ => pkTV rfl c18 rfl) rfl, oP (fun _ => mvV rfl) rfl, oG rfl (fun _ => rfl) (bt c19) (fun _ => faP fa25_2 rfl) rfl, oG rfl (fun _ => rfl) (bt c19) (fun _ => ldP rfl sz23 ag23 rfl) rfl, oG rfl (fun _ => rfl) (bt c19) (fun _ => ixR (l := a0.Parts) (lit := TSpace.lit) sl23 rfl rfl TSpace.cells_lit (g28_11 c18 c19).1 (g28_11 c18 c19).2) rfl, oG rfl (fun _ => rfl) (bt c19) (fun _ => ldCG rfl sz25 ag25 rfl) rfl, oG rfl (fun _ => rfl) (bt c19) (fun _ => faP fa39_4 rfl) rfl, oG rfl (fun _ => rfl) (bt c19) (fun _ => ldP rfl sz37 ag37 rfl) rfl, oG rfl (fun _ => rfl) (bt c19) (fun _ => ixR (l := a1.Parts) (lit := TWeight.lit) sl37 rfl rfl TWeight.cells_lit (g28_15 c18 c19).1 (g28_15 c18 c19).2) rfl, oG rfl (fun _ => rfl) (bt c19) (fun _ => ldCG rfl sz39 ag39 rfl) rfl, fun S hS hD hn => .oneI hS hD hn (gT rfl rfl rfl (bt c19)) rfl (callee_of rfl go60 rfl) (.pure rfl rfl (hs60 _ _ _ (g28_17 c18 c19))) rfl rfl rfl, oP (fun _ => pkTV rfl (bt c19) rfl) rfl, oP (fun _ => mvV rfl) rfl, oN rfl (fun _ => rfl) (nb c20) rfl, oN rfl (fun _ => rfl) (nb c20) rfl, oN rfl (fun _ => rfl) (nb c20) rfl, oN rfl (fun _ => rfl) (nb c20) rfl, oN rfl (fun _ => rfl) (nb c20) rfl, oN rfl (fun _ => rfl) (nb c20) rfl, oN rfl (fun _ => rfl) (nb c20) rfl, oN rfl (fun _ => rfl) (nb c20) rfl, oN rfl (fun _ => rfl) (nb c20) rfl, oP (fun _ => pkFV rfl (nb c20) rfl) rfl, oP (fun _ => asV rfl) rfl, trivial⟩) _ (by exact ⟨cB rfl (mAndT c18 (mAndT (bt c19) (mAndF (nb c20)))), trivial⟩) (by rfl)
                · exact .drawM [(30, 4, bo false), (29, 107, bo false), (28, 106, und), (27, 105, und), (26, 104, und), (25, 103, und), (24, 102, und), (23, 101, und), (22, 100, und), (21, 99, und), (20, 98, und), (19, 97, bo false), (18, 96, bo false), (17, 95, und), (16, 94, und), (15, 93, und), (14, 92, und), (13, 91, und), (12, 90, und), (11, 89, und), (10, 88, und), (9, 87, und), (8, 86, bo ((a1.Parts.length : Int) == 2)), (7, 85, bo ((a1.Parts.length : Int) == 2)), (6, 84, bo ((a1.Parts.length : Int) == 2)), (5, 83, i6 (a1.Parts.length : Int)), (4, 82, .rows (a1.Parts.map TWeight.cells)), (3, 81, .ptr 1 1 6 0 5), (2, 80, bo t28_1), (1, 79, bo t28_1), (0, 78, .agg (TWeight.lit a1))] [] GF_A1 (by rfl) (by rfl) (by rfl) (by exact ⟨oP (fun _ => ldG rfl sz39 ag39 rfl) rfl, fun S hS hD hn => .oneI hS hD hn rfl rfl (callee_of rfl go90 rfl) (.pure rfl rfl (r05_plain.D g28_1)) rfl rfl rfl, oP (fun _ => mvV rfl) rfl, oG rfl (fun _ => rfl) c18 (fun _ => faP fa39_4 rfl) rfl, oG rfl (fun _ => rfl) c18 (fun _ => ldP rfl sz37 ag37 rfl) rfl, oG rfl (fun _ => rfl) c18 (fun _ => lnR (l := a1.Parts) sl37 rfl) rfl, oG rfl (fun _ => rfl) c18 (fun _ => eqI rfl rfl) rfl, oP (fun _ => pkTV rfl c18 rfl) rfl, oP (fun _ => mvV rfl) rfl, oN rfl (fun _ => rfl) (bn c19) rfl, oN rfl (fun _ => rfl) (bn c19) rfl, oN rfl (fun _ => rfl) (bn c19) rfl, oN rfl (fun _ => rfl) (bn c19) rfl, oN rfl (fun _ => rfl) (bn c19) rfl, oN rfl (fun _ => rfl) (bn c19) rfl, oN rfl (fun _ => rfl) (bn c19) rfl, oN rfl (fun _ => rfl) (bn c19) rfl, oN rfl (fun _ => rfl) (bn c19) rfl, oP (fun _ => pkFV rfl (bn c19) rfl) rfl, oP (fun _ => mvV rfl) rfl, oN rfl (fun _ => rfl) rfl rfl, oN rfl (fun _ => rfl) rfl rfl, oN rfl (fun _ => rfl) rfl rfl, oN rfl (fun _ => rfl) rfl rfl, oN rfl (fun _ => rfl) rfl rfl, oN rfl (fun _ => rfl) rfl rfl, oN rfl (fun _ => rfl) rfl rfl, oN rfl (fun _ => rfl) rfl rfl, oN rfl (fun _ => rfl) rfl rfl, oP (fun _ => pkFV rfl rfl rfl) rfl, oP (fun _ => asV rfl) rfl, trivial⟩) _ (by exact ⟨cB rfl (mAndT c18 (mAndF (bn c19))), trivial⟩) (by rfl)
              · exact .drawM [(30, 4, bo false), (29, 107, bo false), (28, 106, und), (27, 105, und), (26, 104, und), (25, 103, und), (24, 102, und), (23, 101, und), (22, 100, und), (21, 99, und), (20, 98, und), (19, 97, bo false), (18, 96, bo false), (17, 95, und), (16, 94, und), (15, 93, und), (14, 92, und), (13, 91, und), (12, 90, und), (11, 89, und), (10, 88, und), (9, 87, und), (8, 86, bo false), (7, 85, bo false), (6, 84, und), (5, 83, und), (4, 82, und), (3, 81, und), (2, 80, bo t28_1), (1, 79, bo t28_1), (0, 78, .agg (TWeight.lit a1))] [] GF_A1 (by rfl) (by rfl) (by rfl) (by exact ⟨oP (fun _ => ldG rfl sz39 ag39 rfl) rfl, fun S hS hD hn => .oneI hS hD hn rfl rfl (callee_of rfl go90 rfl) (.pure rfl rfl (r05_plain.D g28_1)) rfl rfl rfl, oP (fun _ => mvV rfl) rfl, oN rfl (fun _ => rfl) (nb c18) rfl, oN rfl (fun _ => rfl) (nb c18) rfl, oN rfl (fun _ => rfl) (nb c18) rfl, oN rfl (fun _ => rfl) (nb c18) rfl, oP (fun _ => pkFV rfl (nb c18) rfl) rfl, oP (fun _ => mvV rfl) rfl, oN rfl (fun _ => rfl) rfl rfl, oN rfl (fun _ => rfl) rfl rfl, oN rfl (fun _ => rfl) rfl rfl, oN rfl (fun _ => rfl) rfl rfl, oN rfl (fun _ => rfl) rfl rfl, oN rfl (fun _ => rfl) rfl rfl, oN rfl (fun _ => rfl) rfl rfl, oN rfl (fun _ => rfl) rfl rfl, oN rfl (fun _ => rfl) rfl rfl, oP (fun _ => pkFV rfl rfl rfl) rfl, oP (fun _ => mvV rfl) rfl, oN rfl (fun _ => rfl) rfl rfl, oN rfl (fun _ => rfl) rfl rfl, oN rfl (fun _ => rfl) rfl rfl, oN rfl (fun _ => rfl) rfl rfl, oN rfl (fun _ => rfl) rfl rfl, oN rfl (fun _ => rfl) rfl rfl, oN rfl (fun _ => rfl) rfl rfl, oN rfl (fun _ => rfl) rfl rfl, oN rfl (fun _ => rfl) rfl rfl, oP (fun _ => pkFV rfl rfl rfl) rfl, oP (fun _ => asV rfl) rfl, trivial⟩) _ (by exact ⟨cB rfl (mAndF (nb c18)), trivial⟩) (by rfl)
            replace h := h.symm
            subst h
            refine .kf [(4, bo (t28_1 && (((a1.Parts.length : Int) == 2) && (t28_17 && t28_28))))] rfl rfl ?_
            exact .ret rfl
def r05_is.fN : Nat → TSpace → TWeight → Bool → Prop
  | 0 => fun _ _ _ => False
  | n + 1 => r05_is.step (r05_is.fN n)
theorem r05_is.ND : ∀ (n : Nat) {a0 : TSpace} {a1 : TWeight} {r : Bool} (h : r05_is.fN n a0 a1 r), D Tryz.prog X (.callH 60 [.agg (TSpace.lit a0), .agg (TWeight.lit a1)] [] (.val (.bool r)) [])
  | 0, _, _, _, h => h.elim
  | n + 1, _, _, _, h => r05_is.stepD (fun _ _ _ h => r05_is.ND n h) h
def r05_is.f (a0 : TSpace) (a1 : TWeight) (r : Bool) : Prop := ∃ n, r05_is.fN n a0 a1 r
theorem r05_is.D {a0 a1 r} (h : r05_is.f a0 a1 r) : D Tryz.prog X (.callH 60 [.agg (TSpace.lit a0), .agg (TWeight.lit a1)] [] (.val (.bool r)) []) := by obtain ⟨n, h⟩ := h; exact r05_is.ND n h
end Go.RM.Tryz
