/- GI, for the statement WeightSpaces: what it needs, no more. -/
import Derived.Test.YthjbpjpcddegfaaGreatDoorZWeightSpacesGH
set_option linter.unusedVariables false
set_option maxRecDepth 8000
set_option maxHeartbeats 4000000
namespace Go.RM.Tryz
open Go.RM Go.Proofs
abbrev GI_c0 : List PV := [bo false, i6 0, u6 0, nul, nul, nul]
def r05_Same.b1 (a0 : TWeight) (a1 : TWeight) : Int → Rnd Int Unit Bool → Prop := fun x1 z1 => if x1 < (a0.Cells.length : Int) then (((InR x1 a0.Cells.length)) ∧ ((InR x1 a1.Cells.length)) ∧ if (((rdl a0.Cells x1).From == (rdl a1.Cells x1).From) && (((rdl a0.Cells x1).Kind == (rdl a1.Cells x1).Kind) && (((rdl a0.Cells x1).K == (rdl a1.Cells x1).K) && true))) = true then (z1 = .next (IntKind.i64.wrap (x1 + 1))) else (z1 = .ret false)) else (z1 = .exit ())
def r05_Same.b2 (self15 : TWeight → TWeight → Bool → Prop) (a0 : TWeight) (a1 : TWeight) : Int → Rnd Int Unit Bool → Prop := fun x2 z2 => if x2 < (a0.Parts.length : Int) then (((InR x2 a0.Parts.length)) ∧ ((InR x2 a1.Parts.length)) ∧ ∃ t27_10 : Bool, (self15 (rdl a0.Parts x2) (rdl a1.Parts x2) t27_10) ∧ if t27_10 = true then (z2 = .next (IntKind.i64.wrap (x2 + 1))) else (z2 = .ret false)) else (z2 = .exit ())
def r05_Same.step (self15 : TWeight → TWeight → Bool → Prop) (a0 : TWeight) (a1 : TWeight) (r : Bool) : Prop :=
  ∃ t2_17 : Bool, ((a0.Zero = a1.Zero) → (a0.Cost = a1.Cost) → r03_Same.f a0.Facts a1.Facts t2_17) ∧ if ((!(a0.Zero == a1.Zero)) || ((!(a0.Cost == a1.Cost)) || ((!t2_17) || ((!((a0.Cells.length : Int) == (a1.Cells.length : Int))) || ((a0.Parts.length : Int) != (a1.Parts.length : Int)))))) = true then (r = false) else (∃ o1 : Fin Unit Bool, Loop (r05_Same.b1 a0 a1) 0 o1 ∧ o1.on (fun _ => ∃ o2 : Fin Unit Bool, Loop (r05_Same.b2 self15 a0 a1) 0 o2 ∧ o2.on (fun _ => r = true) (fun r_ => r = r_)) (fun r_ => r = r_))
theorem r05_Same.stepD {self15 : TWeight → TWeight → Bool → Prop} {a0 : TWeight} {a1 : TWeight} (hs15 : ∀ z0_ z1_ r_, self15 z0_ z1_ r_ → D Tryz.prog X (.callH 15 [.agg (TWeight.lit z0_), .agg (TWeight.lit z1_)] [] (.val (.bool r_)) [])) {r : Bool} (h : r05_Same.step self15 a0 a1 r) : D Tryz.prog X (.callH 15 [.agg (TWeight.lit a0), .agg (TWeight.lit a1)] [] (.val (.bool r)) []) := by
  unfold r05_Same.step at h
  refine .enter 82 0 fn15 rfl rfl rfl <| .seq <| .room 0 <| .room 0 <| .reg0 rfl (.op 0 rfl (bxP (s := 6) (cs := (TWeight.lit a0)) rfl ⟨rfl, by decide, rfl⟩ rfl) <| .op 1 rfl (bxP (s := 6) (cs := (TWeight.lit a1)) rfl ⟨rfl, by decide, rfl⟩ rfl) <| .op 0 rfl (asV rfl) <| .nil0) <| .seq <| .seq ?_
  obtain ⟨t2_17, g2_17, h⟩ := h
  refine .reg0 (e1 := listEnv [(2, .ptr 0 1 6 0 0), (3, .ptr 1 1 6 0 0), (44, bo ((!(a0.Zero == a1.Zero)) || ((!(a0.Cost == a1.Cost)) || ((!t2_17) || ((!((a0.Cells.length : Int) == (a1.Cells.length : Int))) || ((a0.Parts.length : Int) != (a1.Parts.length : Int)))))))]) (H1 := [⟨6, [(TWeight.lit a0)], 0, none⟩, ⟨6, [(TWeight.lit a1)], 0, none⟩]) rfl ?_ ?_
  · refine .o (faP fa33_0 rfl) <| .o (ldP rfl sz4 ag4 rfl) <| .o (faP fa33_0 rfl) <| .o (ldP rfl sz4 ag4 rfl) <| .o (neB un4 rfl rfl) <| .m rfl <| ?_
    by_cases c1 : a0.Zero = a1.Zero
    · refine .g rfl (nf c1) (faP fa33_1 rfl) <| .g rfl (nf c1) (ldP rfl sz3 ag3 rfl) <| .g rfl (nf c1) (faP fa33_1 rfl) <| .g rfl (nf c1) (ldP rfl sz3 ag3 rfl) <| .g rfl (nf c1) (neI rfl rfl) <| .o (pkFV rfl (nf c1) rfl) <| .m rfl <| ?_
      by_cases c2 : a0.Cost = a1.Cost
      · refine .g rfl (nf c2) (faP fa33_2 rfl) <| .g rfl (nf c2) (ldG rfl sz29 ag29 rfl) <| .g rfl (nf c2) (faP fa33_2 rfl) <| .g rfl (nf c2) (ldG rfl sz29 ag29 rfl) <| .callI (gT rfl rfl rfl (nf c2)) (callee_of rfl go42 rfl) (.pure rfl rfl (r03_Same.D (g2_17 c1 c2))) <| .g rfl (nf c2) (notB rfl) <| .o (pkFV rfl (nf c2) rfl) <| .m rfl <| ?_
        by_cases c3 : t2_17 = true
        · refine .g rfl (bnotF c3) (faP fa33_3 rfl) <| .g rfl (bnotF c3) (ldP rfl sz30 ag30 rfl) <| .g rfl (bnotF c3) (lnR (l := a0.Cells) sl30 rfl) <| .g rfl (bnotF c3) (faP fa33_3 rfl) <| .g rfl (bnotF c3) (ldP rfl sz30 ag30 rfl) <| .g rfl (bnotF c3) (lnR (l := a1.Cells) sl30 rfl) <| .g rfl (bnotF c3) (neI rfl rfl) <| .o (pkFV rfl (bnotF c3) rfl) <| .m rfl <| ?_
          by_cases c4 : (a0.Cells.length : Int) = (a1.Cells.length : Int)
          · exact (.g rfl (nf c4) (faP fa33_4 rfl) <| .g rfl (nf c4) (ldP rfl sz31 ag31 rfl) <| .g rfl (nf c4) (lnR (l := a0.Parts) sl31 rfl) <| .g rfl (nf c4) (faP fa33_4 rfl) <| .g rfl (nf c4) (ldP rfl sz31 ag31 rfl) <| .g rfl (nf c4) (lnR (l := a1.Parts) sl31 rfl) <| .g rfl (nf c4) (neI rfl rfl) <| .o (pkFV rfl (nf c4) rfl) <| .nilL _ ⟨.ptr rfl, .ptr rfl, cB rfl (mOrF (bnotF (bt c1)) (mOrF (bnotF (bt c2)) (mOrF (bnotF c3) (mOrF (bnotF (bt c4)) rfl)))), trivial⟩)
          · exact (.n rfl (nt c4) <| .n rfl (nt c4) <| .n rfl (nt c4) <| .n rfl (nt c4) <| .n rfl (nt c4) <| .n rfl (nt c4) <| .n rfl (nt c4) <| .o (pkTV rfl (nt c4) rfl) <| .nilL _ ⟨.ptr rfl, .ptr rfl, cB rfl (mOrF (bnotF (bt c1)) (mOrF (bnotF (bt c2)) (mOrF (bnotF c3) (mOrT (bnotT (bn c4)))))), trivial⟩)
        · exact (.n rfl (bnotT (nb c3)) <| .n rfl (bnotT (nb c3)) <| .n rfl (bnotT (nb c3)) <| .n rfl (bnotT (nb c3)) <| .n rfl (bnotT (nb c3)) <| .n rfl (bnotT (nb c3)) <| .n rfl (bnotT (nb c3)) <| .o (pkTV rfl (bnotT (nb c3)) rfl) <| .m rfl <| .n rfl rfl <| .n rfl rfl <| .n rfl rfl <| .n rfl rfl <| .n rfl rfl <| .n rfl rfl <| .n rfl rfl <| .o (pkTV rfl rfl rfl) <| .nilL _ ⟨.ptr rfl, .ptr rfl, cB rfl (mOrF (bnotF (bt c1)) (mOrF (bnotF (bt c2)) (mOrT (bnotT (nb c3))))), trivial⟩)
      · exact (.n rfl (nt c2) <| .n rfl (nt c2) <| .n rfl (nt c2) <| .n rfl (nt c2) <| .n rfl (nt c2) <| .n rfl (nt c2) <| .o (pkTV rfl (nt c2) rfl) <| .m rfl <| .n rfl rfl <| .n rfl rfl <| .n rfl rfl <| .n rfl rfl <| .n rfl rfl <| .n rfl rfl <| .n rfl rfl <| .o (pkTV rfl rfl rfl) <| .m rfl <| .n rfl rfl <| .n rfl rfl <| .n rfl rfl <| .n rfl rfl <| .n rfl rfl <| .n rfl rfl <| .n rfl rfl <| .o (pkTV rfl rfl rfl) <| .nilL _ ⟨.ptr rfl, .ptr rfl, cB rfl (mOrF (bnotF (bt c1)) (mOrT (bnotT (bn c2)))), trivial⟩)
    · exact (.n rfl (nt c1) <| .n rfl (nt c1) <| .n rfl (nt c1) <| .n rfl (nt c1) <| .n rfl (nt c1) <| .o (pkTV rfl (nt c1) rfl) <| .m rfl <| .n rfl rfl <| .n rfl rfl <| .n rfl rfl <| .n rfl rfl <| .n rfl rfl <| .n rfl rfl <| .o (pkTV rfl rfl rfl) <| .m rfl <| .n rfl rfl <| .n rfl rfl <| .n rfl rfl <| .n rfl rfl <| .n rfl rfl <| .n rfl rfl <| .n rfl rfl <| .o (pkTV rfl rfl rfl) <| .m rfl <| .n rfl rfl <| .n rfl rfl <| .n rfl rfl <| .n rfl rfl <| .n rfl rfl <| .n rfl rfl <| .n rfl rfl <| .o (pkTV rfl rfl rfl) <| .nilL _ ⟨.ptr rfl, .ptr rfl, cB rfl (mOrT (bnotT (bn c1))), trivial⟩)
  by_cases c5 : ((!(a0.Zero == a1.Zero)) || ((!(a0.Cost == a1.Cost)) || ((!t2_17) || ((!((a0.Cells.length : Int) == (a1.Cells.length : Int))) || ((a0.Parts.length : Int) != (a1.Parts.length : Int)))))) = true
  · rw [if_pos c5] at h
    refine .condT rfl c5 <| .seq <| .reg0 rfl (.op 0 rfl (asV rfl) <| .nil0) ?_
    replace h := h.symm
    subst h
    refine .kf [(4, bo false)] rfl rfl ?_
    exact .ret rfl
  · rw [if_neg c5] at h
    refine .condF rfl (nb c5) <| .skip <| .seq <| .seq <| .reg0 rfl (.op 0 rfl (asV rfl) <| .nil0) <| .block <| .keepL [0, 1] [(2, .ptr 0 1 6 0 0), (3, .ptr 1 1 6 0 0), (5, i6 0)] [⟨6, [(TWeight.lit a0)], 0, none⟩, ⟨6, [(TWeight.lit a1)], 0, none⟩] (by decide) (by decide) ⟨.ptr rfl, .ptr rfl, .free rfl rfl, trivial⟩ ⟨⟨_, rfl, bcBox (all2_free rfl)⟩, ⟨_, rfl, bcBox (all2_free rfl)⟩, trivial⟩ ?_
    obtain ⟨o1, hL1, h⟩ := h
    refine .loopB (r05_Same.b1 a0 a1) (fun x1 => listEnv [(2, .ptr 0 1 6 0 0), (3, .ptr 1 1 6 0 0), (5, i6 x1)]) (fun x1 => [⟨6, [(TWeight.lit a0)], 0, none⟩, ⟨6, [(TWeight.lit a1)], 0, none⟩]) (fun _ => listEnv [(2, .ptr 0 1 6 0 0), (3, .ptr 1 1 6 0 0)]) (fun _ => [⟨6, [(TWeight.lit a0)], 0, none⟩, ⟨6, [(TWeight.lit a1)], 0, none⟩]) hL1 (fun r_ => r = r_) ?_ ?_ ?_
    · rintro ⟨⟩ rfl
      try dsimp only [Fin.on] at h
      refine .seq <| .seq <| .reg0 rfl (.op 0 rfl (asV rfl) <| .nil0) <| .block <| .keepL [0, 1] [(2, .ptr 0 1 6 0 0), (3, .ptr 1 1 6 0 0), (6, i6 0)] [⟨6, [(TWeight.lit a0)], 0, none⟩, ⟨6, [(TWeight.lit a1)], 0, none⟩] (by decide) (by decide) ⟨.ptr rfl, .ptr rfl, .free rfl rfl, trivial⟩ ⟨⟨_, rfl, bcBox (all2_free rfl)⟩, ⟨_, rfl, bcBox (all2_free rfl)⟩, trivial⟩ ?_
      obtain ⟨o2, hL2, h⟩ := h
      refine .loopB (r05_Same.b2 self15 a0 a1) (fun x2 => listEnv [(2, .ptr 0 1 6 0 0), (3, .ptr 1 1 6 0 0), (6, i6 x2)]) (fun x2 => [⟨6, [(TWeight.lit a0)], 0, none⟩, ⟨6, [(TWeight.lit a1)], 0, none⟩]) (fun _ => listEnv []) (fun _ => []) hL2 (fun r_ => r = r_) ?_ ?_ ?_
      · rintro ⟨⟩ rfl
        try dsimp only [Fin.on] at h
        refine .seq <| .reg0 rfl (.op 0 rfl (asV rfl) <| .nil0) ?_
        replace h := h.symm
        subst h
        refine .kf [(4, bo true)] rfl rfl ?_
        exact .ret rfl
      · rintro r_ rfl
        exact h
      · rintro x2 z2 h hn2 hx2 hr2
        dsimp only [r05_Same.b2] at h
        refine .seq <| .seq <| .reg0 rfl (.op 0 rfl (mvV rfl) <| .op 0 rfl (faP fa33_4 rfl) <| .op 0 rfl (ldP rfl sz31 ag31 rfl) <| .op 0 rfl (lnR (l := a0.Parts) sl31 rfl) <| .op 0 rfl (ltI rfl rfl) <| .nil0) ?_
        by_cases c16 : x2 < (a0.Parts.length : Int)
        · rw [if_pos c16] at h
          refine .condT rfl (dt c16) <| .skip <| .seq <| .block <| .seq ?_
          obtain ⟨g27_3, h⟩ := h
          obtain ⟨g27_8, h⟩ := h
          obtain ⟨t27_10, g27_10, h⟩ := h
          refine .reg1 (e1 := listEnv [(2, .ptr 0 1 6 0 0), (3, .ptr 1 1 6 0 0), (6, i6 x2), (81, bo (!t27_10))]) (H1 := [⟨6, [(TWeight.lit a0)], 0, none⟩, ⟨6, [(TWeight.lit a1)], 0, none⟩]) rfl ?_ ?_
          · exact .drawM [(11, 81, bo (!t27_10)), (10, 80, bo t27_10), (9, 79, .agg (TWeight.lit (rdl a1.Parts x2))), (8, 78, .cptr (TWeight.lit (rdl a1.Parts x2)) 0), (7, 77, i6 x2), (6, 76, .rows (a1.Parts.map TWeight.cells)), (5, 75, .ptr 1 1 6 0 5), (4, 74, .agg (TWeight.lit (rdl a0.Parts x2))), (3, 73, .cptr (TWeight.lit (rdl a0.Parts x2)) 0), (2, 72, i6 x2), (1, 71, .rows (a0.Parts.map TWeight.cells)), (0, 70, .ptr 0 1 6 0 5)] [] [[], [0], [], [1, 0, 2], [3, 1, 0, 2], [], [5], [], [6, 5, 7], [8, 6, 5, 7], [4, 3, 1, 0, 2, 9, 8, 6, 5, 7], [10, 4, 3, 1, 0, 2, 9, 8, 6, 5, 7]] (by rfl) (by rfl) (by rfl) (by exact ⟨oP (fun _ => faP fa33_4 rfl) rfl, oP (fun _ => ldP rfl sz31 ag31 rfl) rfl, oP (fun _ => mvV rfl) rfl, oP (fun _ => ixR (l := a0.Parts) (lit := TWeight.lit) sl31 rfl rfl TWeight.cells_lit g27_3.1 g27_3.2) rfl, oP (fun _ => ldCG rfl sz33 ag33 rfl) rfl, oP (fun _ => faP fa33_4 rfl) rfl, oP (fun _ => ldP rfl sz31 ag31 rfl) rfl, oP (fun _ => mvV rfl) rfl, oP (fun _ => ixR (l := a1.Parts) (lit := TWeight.lit) sl31 rfl rfl TWeight.cells_lit g27_8.1 g27_8.2) rfl, oP (fun _ => ldCG rfl sz33 ag33 rfl) rfl, fun S hS hD hn => .oneI hS hD hn rfl rfl (callee_of rfl go15 rfl) (.pure rfl rfl (hs15 _ _ _ g27_10)) rfl rfl rfl, oP (fun _ => notB rfl) rfl, trivial⟩) _ (by exact ⟨.ptr rfl, .ptr rfl, .free rfl rfl, .free rfl rfl, trivial⟩) (by rfl)
          by_cases c17 : t27_10 = true
          · rw [if_pos c17] at h
            refine .condF rfl (bnotF c17) <| .skip <| .inBlock <| .reg0 rfl (.op 0 rfl (mvV rfl) <| .op 0 rfl (addI rfl rfl) <| .op 0 rfl (asV rfl) <| .nil0) <| .keepL [0, 1] [(2, .ptr 0 1 6 0 0), (3, .ptr 1 1 6 0 0), (6, i6 (IntKind.i64.wrap (x2 + 1)))] [⟨6, [(TWeight.lit a0)], 0, none⟩, ⟨6, [(TWeight.lit a1)], 0, none⟩] (by decide) (by decide) ⟨.ptr rfl, .ptr rfl, .free rfl rfl, trivial⟩ ⟨⟨_, rfl, bcBox (all2_free rfl)⟩, ⟨_, rfl, bcBox (all2_free rfl)⟩, trivial⟩ ?_
            exact hn2 _ h
          · rw [if_neg c17] at h
            refine .condT rfl (bnotT (nb c17)) <| .seq <| .reg0 rfl (.op 0 rfl (asV rfl) <| .nil0) ?_
            have q6 := hr2 _ h
            replace q6 := q6.symm
            subst q6
            refine .kf [(4, bo false)] rfl rfl ?_
            exact .ret rfl
        · rw [if_neg c16] at h
          refine .condF rfl (df c16) <| .exit rfl <| .keepL [] [] [] (by decide) (by decide) trivial trivial ?_
          exact hx2 _ h
    · rintro r_ rfl
      exact h
    · rintro x1 z1 h hn1 hx1 hr1
      dsimp only [r05_Same.b1] at h
      refine .seq <| .seq <| .reg0 rfl (.op 0 rfl (mvV rfl) <| .op 0 rfl (faP fa33_3 rfl) <| .op 0 rfl (ldP rfl sz30 ag30 rfl) <| .op 0 rfl (lnR (l := a0.Cells) sl30 rfl) <| .op 0 rfl (ltI rfl rfl) <| .nil0) ?_
      by_cases c10 : x1 < (a0.Cells.length : Int)
      · rw [if_pos c10] at h
        refine .condT rfl (dt c10) <| .skip <| .seq <| .block <| .seq ?_
        obtain ⟨g14_3, h⟩ := h
        obtain ⟨g14_8, h⟩ := h
        refine .reg1 (e1 := listEnv [(2, .ptr 0 1 6 0 0), (3, .ptr 1 1 6 0 0), (5, i6 x1), (62, bo (!(((rdl a0.Cells x1).From == (rdl a1.Cells x1).From) && (((rdl a0.Cells x1).Kind == (rdl a1.Cells x1).Kind) && (((rdl a0.Cells x1).K == (rdl a1.Cells x1).K) && true)))))]) (H1 := [⟨6, [(TWeight.lit a0)], 0, none⟩, ⟨6, [(TWeight.lit a1)], 0, none⟩]) rfl ?_ ?_
        · exact .drawM [(10, 62, bo (!(((rdl a0.Cells x1).From == (rdl a1.Cells x1).From) && (((rdl a0.Cells x1).Kind == (rdl a1.Cells x1).Kind) && (((rdl a0.Cells x1).K == (rdl a1.Cells x1).K) && true))))), (9, 61, .agg (TCell.lit (rdl a1.Cells x1))), (8, 60, .cptr (TCell.lit (rdl a1.Cells x1)) 0), (7, 59, i6 x1), (6, 58, .rows (a1.Cells.map TCell.cells)), (5, 57, .ptr 1 1 6 0 4), (4, 56, .agg (TCell.lit (rdl a0.Cells x1))), (3, 55, .cptr (TCell.lit (rdl a0.Cells x1)) 0), (2, 54, i6 x1), (1, 53, .rows (a0.Cells.map TCell.cells)), (0, 52, .ptr 0 1 6 0 4)] [] [[], [0], [], [1, 0, 2], [3, 1, 0, 2], [], [5], [], [6, 5, 7], [8, 6, 5, 7], [4, 3, 1, 0, 2, 9, 8, 6, 5, 7]] (by rfl) (by rfl) (by rfl) (by exact ⟨oP (fun _ => faP fa33_3 rfl) rfl, oP (fun _ => ldP rfl sz30 ag30 rfl) rfl, oP (fun _ => mvV rfl) rfl, oP (fun _ => ixR (l := a0.Cells) (lit := TCell.lit) sl30 rfl rfl (fun _ => rfl) g14_3.1 g14_3.2) rfl, oP (fun _ => ldCG rfl sz74 ag74 rfl) rfl, oP (fun _ => faP fa33_3 rfl) rfl, oP (fun _ => ldP rfl sz30 ag30 rfl) rfl, oP (fun _ => mvV rfl) rfl, oP (fun _ => ixR (l := a1.Cells) (lit := TCell.lit) sl30 rfl rfl (fun _ => rfl) g14_8.1 g14_8.2) rfl, oP (fun _ => ldCG rfl sz74 ag74 rfl) rfl, oP (fun _ => neS (xs := [.int .u64 ((rdl a0.Cells x1).From), .int .i64 ((rdl a0.Cells x1).Kind), .int .i64 ((rdl a0.Cells x1).K)]) (ys := [.int .u64 ((rdl a1.Cells x1).From), .int .i64 ((rdl a1.Cells x1).Kind), .int .i64 ((rdl a1.Cells x1).K)]) ek74 rfl rfl rfl rfl rfl) rfl, trivial⟩) _ (by exact ⟨.ptr rfl, .ptr rfl, .free rfl rfl, .free rfl rfl, trivial⟩) (by rfl)
        by_cases c11 : (((rdl a0.Cells x1).From == (rdl a1.Cells x1).From) && (((rdl a0.Cells x1).Kind == (rdl a1.Cells x1).Kind) && (((rdl a0.Cells x1).K == (rdl a1.Cells x1).K) && true))) = true
        · rw [if_pos c11] at h
          refine .condF rfl (bnotF c11) <| .skip <| .inBlock <| .reg0 rfl (.op 0 rfl (mvV rfl) <| .op 0 rfl (addI rfl rfl) <| .op 0 rfl (asV rfl) <| .nil0) <| .keepL [0, 1] [(2, .ptr 0 1 6 0 0), (3, .ptr 1 1 6 0 0), (5, i6 (IntKind.i64.wrap (x1 + 1)))] [⟨6, [(TWeight.lit a0)], 0, none⟩, ⟨6, [(TWeight.lit a1)], 0, none⟩] (by decide) (by decide) ⟨.ptr rfl, .ptr rfl, .free rfl rfl, trivial⟩ ⟨⟨_, rfl, bcBox (all2_free rfl)⟩, ⟨_, rfl, bcBox (all2_free rfl)⟩, trivial⟩ ?_
          exact hn1 _ h
        · rw [if_neg c11] at h
          refine .condT rfl (bnotT (nb c11)) <| .seq <| .reg0 rfl (.op 0 rfl (asV rfl) <| .nil0) ?_
          have q3 := hr1 _ h
          replace q3 := q3.symm
          subst q3
          refine .kf [(4, bo false)] rfl rfl ?_
          exact .ret rfl
      · rw [if_neg c10] at h
        refine .condF rfl (df c10) <| .exit rfl <| .keepL [0, 1] [(2, .ptr 0 1 6 0 0), (3, .ptr 1 1 6 0 0)] [⟨6, [(TWeight.lit a0)], 0, none⟩, ⟨6, [(TWeight.lit a1)], 0, none⟩] (by decide) (by decide) ⟨.ptr rfl, .ptr rfl, trivial⟩ ⟨⟨_, rfl, bcBox (all2_free rfl)⟩, ⟨_, rfl, bcBox (all2_free rfl)⟩, trivial⟩ ?_
        exact hx1 _ h
def r05_Same.fN : Nat → TWeight → TWeight → Bool → Prop
  | 0 => fun _ _ _ => False
  | n + 1 => r05_Same.step (r05_Same.fN n)
theorem r05_Same.ND : ∀ (n : Nat) {a0 : TWeight} {a1 : TWeight} {r : Bool} (h : r05_Same.fN n a0 a1 r), D Tryz.prog X (.callH 15 [.agg (TWeight.lit a0), .agg (TWeight.lit a1)] [] (.val (.bool r)) [])
  | 0, _, _, _, h => h.elim
  | n + 1, _, _, _, h => r05_Same.stepD (fun _ _ _ h => r05_Same.ND n h) h
def r05_Same.f (a0 : TWeight) (a1 : TWeight) (r : Bool) : Prop := ∃ n, r05_Same.fN n a0 a1 r
theorem r05_Same.D {a0 a1 r} (h : r05_Same.f a0 a1 r) : D Tryz.prog X (.callH 15 [.agg (TWeight.lit a0), .agg (TWeight.lit a1)] [] (.val (.bool r)) []) := by obtain ⟨n, h⟩ := h; exact r05_Same.ND n h
def slices_Equal_Cell.b1 (a0 : List TCell) (a1 : List TCell) : Int → Rnd Int Unit Bool → Prop := fun x1 z1 => if x1 < (a0.length : Int) then (((InR x1 a0.length)) ∧ ((InR x1 a1.length)) ∧ if (((rdl a0 x1).From == (rdl a1 x1).From) && (((rdl a0 x1).Kind == (rdl a1 x1).Kind) && (((rdl a0 x1).K == (rdl a1 x1).K) && true))) = true then (z1 = .next (IntKind.i64.wrap (x1 + 1))) else (z1 = .ret false)) else (z1 = .exit ())
def slices_Equal_Cell.f (a0 : List TCell) (a1 : List TCell) (r : Bool) : Prop :=
  if (a0.length : Int) = (a1.length : Int) then (∃ o1 : Fin Unit Bool, Loop (slices_Equal_Cell.b1 a0 a1) 0 o1 ∧ o1.on (fun _ => r = true) (fun r_ => r = r_)) else (r = false)
theorem slices_Equal_Cell.D {a0 a1 r} (h : slices_Equal_Cell.f a0 a1 r) : D Tryz.prog X (.callH 92 [.rows (a0.map TCell.cells), .rows (a1.map TCell.cells)] [] (.val (.bool r)) []) := by
  unfold slices_Equal_Cell.f at h
  refine .enter 26 0 fn92 rfl rfl rfl <| .seq <| .reg0 rfl (.op 0 rfl (asV rfl) <| .nil0) <| .seq <| .seq <| .reg0 rfl (.op 0 rfl (mvR rfl) <| .op 0 rfl (lnR (l := a0) sl30 rfl) <| .op 0 rfl (mvR rfl) <| .op 0 rfl (lnR (l := a1) sl30 rfl) <| .op 0 rfl (neI rfl rfl) <| .nil0) ?_
  by_cases c1 : (a0.length : Int) = (a1.length : Int)
  · rw [if_pos c1] at h
    refine .condF rfl (nf c1) <| .skip <| .seq <| .seq <| .reg0 rfl (.op 0 rfl (mvR rfl) <| .op 0 rfl (lnR (l := a0) sl30 rfl) <| .op 0 rfl (mvV rfl) <| .nil0) <| .block <| .keepL [] [(0, .rows (a0.map TCell.cells)), (1, .rows (a1.map TCell.cells)), (12, i6 (a0.length : Int)), (13, i6 0)] [] (by decide) (by decide) ⟨.free rfl rfl, .free rfl rfl, .free rfl rfl, .free rfl rfl, trivial⟩ trivial ?_
    obtain ⟨o1, hL1, h⟩ := h
    refine .loopB (slices_Equal_Cell.b1 a0 a1) (fun x1 => listEnv [(0, .rows (a0.map TCell.cells)), (1, .rows (a1.map TCell.cells)), (12, i6 (a0.length : Int)), (13, i6 x1)]) (fun x1 => []) (fun _ => listEnv []) (fun _ => []) hL1 (fun r_ => r = r_) ?_ ?_ ?_
    · rintro ⟨⟩ rfl
      try dsimp only [Fin.on] at h
      refine .seq <| .reg0 rfl (.op 0 rfl (asV rfl) <| .nil0) ?_
      replace h := h.symm
      subst h
      refine .kf [(4, bo true)] rfl rfl ?_
      exact .ret rfl
    · rintro r_ rfl
      exact h
    · rintro x1 z1 h hn1 hx1 hr1
      dsimp only [slices_Equal_Cell.b1] at h
      refine .seq <| .reg0 rfl (.op 0 rfl (ltI rfl rfl) <| .nil0) <| .seq ?_
      by_cases c6 : x1 < (a0.length : Int)
      · rw [if_pos c6] at h
        refine .condT rfl (dt c6) <| .skip <| .seq <| .block <| .seq <| .reg0 rfl (.op 0 rfl (mvV rfl) <| .op 0 rfl (asV rfl) <| .nil0) <| .seq ?_
        obtain ⟨g16_2, h⟩ := h
        obtain ⟨g16_6, h⟩ := h
        refine .reg1 (e1 := listEnv [(0, .rows (a0.map TCell.cells)), (1, .rows (a1.map TCell.cells)), (12, i6 (a0.length : Int)), (13, i6 x1), (24, bo (!(((rdl a0 x1).From == (rdl a1 x1).From) && (((rdl a0 x1).Kind == (rdl a1 x1).Kind) && (((rdl a0 x1).K == (rdl a1 x1).K) && true)))))]) (H1 := []) rfl ?_ ?_
        · exact .drawM [(8, 24, bo (!(((rdl a0 x1).From == (rdl a1 x1).From) && (((rdl a0 x1).Kind == (rdl a1 x1).Kind) && (((rdl a0 x1).K == (rdl a1 x1).K) && true))))), (7, 23, .agg (TCell.lit (rdl a1 x1))), (6, 22, .cptr (TCell.lit (rdl a1 x1)) 0), (5, 21, i6 x1), (4, 20, .rows (a1.map TCell.cells)), (3, 19, .agg (TCell.lit (rdl a0 x1))), (2, 18, .cptr (TCell.lit (rdl a0 x1)) 0), (1, 17, i6 x1), (0, 16, .rows (a0.map TCell.cells))] [] [[], [], [0, 1], [2, 0, 1], [], [], [4, 5], [6, 4, 5], [3, 2, 0, 1, 7, 6, 4, 5]] (by rfl) (by rfl) (by rfl) (by exact ⟨oP (fun _ => mvR rfl) rfl, oP (fun _ => mvV rfl) rfl, oP (fun _ => ixR (l := a0) (lit := TCell.lit) sl30 rfl rfl (fun _ => rfl) g16_2.1 g16_2.2) rfl, oP (fun _ => ldCG rfl sz74 ag74 rfl) rfl, oP (fun _ => mvR rfl) rfl, oP (fun _ => mvV rfl) rfl, oP (fun _ => ixR (l := a1) (lit := TCell.lit) sl30 rfl rfl (fun _ => rfl) g16_6.1 g16_6.2) rfl, oP (fun _ => ldCG rfl sz74 ag74 rfl) rfl, oP (fun _ => neS (xs := [.int .u64 ((rdl a0 x1).From), .int .i64 ((rdl a0 x1).Kind), .int .i64 ((rdl a0 x1).K)]) (ys := [.int .u64 ((rdl a1 x1).From), .int .i64 ((rdl a1 x1).Kind), .int .i64 ((rdl a1 x1).K)]) ek74 rfl rfl rfl rfl rfl) rfl, trivial⟩) _ (by exact ⟨.free rfl rfl, .free rfl rfl, .free rfl rfl, .free rfl rfl, .free rfl rfl, trivial⟩) (by rfl)
        by_cases c7 : (((rdl a0 x1).From == (rdl a1 x1).From) && (((rdl a0 x1).Kind == (rdl a1 x1).Kind) && (((rdl a0 x1).K == (rdl a1 x1).K) && true))) = true
        · rw [if_pos c7] at h
          refine .condF rfl (bnotF c7) <| .skip <| .inBlock <| .reg0 rfl (.op 0 rfl (addI rfl rfl) <| .op 0 rfl (mvV rfl) <| .nil0) <| .kf [(0, .rows (a0.map TCell.cells)), (1, .rows (a1.map TCell.cells)), (12, i6 (a0.length : Int)), (13, i6 (IntKind.i64.wrap (x1 + 1)))] rfl rfl ?_
          exact hn1 _ h
        · rw [if_neg c7] at h
          refine .condT rfl (bnotT (nb c7)) <| .seq <| .reg0 rfl (.op 0 rfl (asV rfl) <| .nil0) ?_
          have q3 := hr1 _ h
          replace q3 := q3.symm
          subst q3
          refine .kf [(4, bo false)] rfl rfl ?_
          exact .ret rfl
      · rw [if_neg c6] at h
        refine .condF rfl (df c6) <| .exit rfl <| .keepL [] [] [] (by decide) (by decide) trivial trivial ?_
        exact hx1 _ h
  · rw [if_neg c1] at h
    refine .condT rfl (nt c1) <| .seq <| .reg0 rfl (.op 0 rfl (asV rfl) <| .nil0) ?_
    replace h := h.symm
    subst h
    refine .kf [(4, bo false)] rfl rfl ?_
    exact .ret rfl
def cells_Same.f (a0 : List TCell) (a1 : List TCell) (r : Bool) : Prop :=
  ∃ t2_2 : Bool, (slices_Equal_Cell.f a0 a1 t2_2) ∧ r = t2_2
theorem cells_Same.D {a0 a1 r} (h : cells_Same.f a0 a1 r) : D Tryz.prog X (.callH 57 [.rows (a0.map TCell.cells), .rows (a1.map TCell.cells)] [] (.val (.bool r)) []) := by
  unfold cells_Same.f at h
  refine .enter 8 0 fn57 rfl rfl rfl <| .seq <| .reg0 rfl (.op 0 rfl (asV rfl) <| .nil0) <| .seq ?_
  obtain ⟨t2_2, g2_2, h⟩ := h
  refine .reg0 rfl (.o (mvR rfl) <| .o (mvR rfl) <| .c rfl go92 rfl rfl rfl (slices_Equal_Cell.D g2_2) <| .a rfl <| .nil0) ?_
  replace h := h.symm
  subst h
  refine .kf [(4, bo t2_2)] rfl rfl ?_
  exact .ret rfl
def slices_EqualFunc_Weight_Weight_Weight.b1 (a0 : List TWeight) (a1 : List TWeight) (a2 : TWeight → TWeight → Bool → Prop) : Int → Rnd Int Unit Bool → Prop := fun x1 z1 => if x1 < (a0.length : Int) then (((InR x1 a0.length)) ∧ ((InR x1 a1.length)) ∧ ∃ t19_3 : Bool, (a2 (rdl a0 x1) (rdl a1 x1) t19_3) ∧ if t19_3 = true then (z1 = .next (IntKind.i64.wrap (x1 + 1))) else (z1 = .ret false)) else (z1 = .exit ())
def slices_EqualFunc_Weight_Weight_Weight.f (a0 : List TWeight) (a1 : List TWeight) (a2 : TWeight → TWeight → Bool → Prop) (r : Bool) : Prop :=
  if (a0.length : Int) = (a1.length : Int) then (∃ o1 : Fin Unit Bool, Loop (slices_EqualFunc_Weight_Weight_Weight.b1 a0 a1 a2) 0 o1 ∧ o1.on (fun _ => r = true) (fun r_ => r = r_)) else (r = false)
theorem slices_EqualFunc_Weight_Weight_Weight.D {a0 : List TWeight} {a1 : List TWeight} {a2 : TWeight → TWeight → Bool → Prop} {r : Bool} {c2_ : FuncId} {k2_ : List PV} (hg2_ : isGo Tryz.prog c2_ = true) (hk2_ : PV.free deep (.clo c2_ k2_) = true) (hka2_ : k2_.all (PV.free deep) = true) (hq2_ : ∀ x0_ x1_ y_, a2 x0_ x1_ y_ → D Tryz.prog X (.callH c2_ ([.agg (TWeight.lit x0_), .agg (TWeight.lit x1_)] ++ k2_) [] (.val (.bool y_)) [])) (h : slices_EqualFunc_Weight_Weight_Weight.f a0 a1 a2 r) : D Tryz.prog X (.callH 58 [.rows (a0.map TWeight.cells), .rows (a1.map TWeight.cells), .clo c2_ k2_] [] (.val (.bool r)) []) := by
  unfold slices_EqualFunc_Weight_Weight_Weight.f at h
  refine .enter 32 0 fn58 rfl rfl rfl <| .seq <| .reg0 rfl (.op 0 rfl (asV rfl) <| .nil0) <| .seq <| .seq <| .reg0 rfl (.op 0 rfl (mvR rfl) <| .op 0 rfl (lnR (l := a0) sl31 rfl) <| .op 0 rfl (mvR rfl) <| .op 0 rfl (lnR (l := a1) sl31 rfl) <| .op 0 rfl (neI rfl rfl) <| .nil0) ?_
  by_cases c1 : (a0.length : Int) = (a1.length : Int)
  · rw [if_pos c1] at h
    refine .condF rfl (nf c1) <| .skip <| .seq <| .seq <| .reg0 rfl (.op 0 rfl (mvR rfl) <| .op 0 rfl (lnR (l := a0) sl31 rfl) <| .op 0 rfl (mvV rfl) <| .nil0) <| .block <| .keepL [] [(1, .rows (a1.map TWeight.cells)), (2, .clo c2_ k2_), (15, .rows (a0.map TWeight.cells)), (16, i6 (a0.length : Int)), (17, i6 0)] [] (by decide) (by decide) ⟨.free rfl rfl, .free rfl hk2_, .free rfl rfl, .free rfl rfl, .free rfl rfl, trivial⟩ trivial ?_
    obtain ⟨o1, hL1, h⟩ := h
    refine .loopB (slices_EqualFunc_Weight_Weight_Weight.b1 a0 a1 a2) (fun x1 => listEnv [(1, .rows (a1.map TWeight.cells)), (2, .clo c2_ k2_), (15, .rows (a0.map TWeight.cells)), (16, i6 (a0.length : Int)), (17, i6 x1)]) (fun x1 => []) (fun _ => listEnv []) (fun _ => []) hL1 (fun r_ => r = r_) ?_ ?_ ?_
    · rintro ⟨⟩ rfl
      try dsimp only [Fin.on] at h
      refine .seq <| .reg0 rfl (.op 0 rfl (asV rfl) <| .nil0) ?_
      replace h := h.symm
      subst h
      refine .kf [(6, bo true)] rfl rfl ?_
      exact .ret rfl
    · rintro r_ rfl
      exact h
    · rintro x1 z1 h hn1 hx1 hr1
      dsimp only [slices_EqualFunc_Weight_Weight_Weight.b1] at h
      refine .seq <| .reg0 rfl (.op 0 rfl (ltI rfl rfl) <| .nil0) <| .seq ?_
      by_cases c6 : x1 < (a0.length : Int)
      · rw [if_pos c6] at h
        refine .condT rfl (dt c6) <| .skip <| .seq <| .block <| .seq ?_
        obtain ⟨g17_1, h⟩ := h
        refine .room 0 <| .reg0 rfl (.op 0 rfl (mvV rfl) <| .op 0 rfl (ixR (l := a0) (lit := TWeight.lit) sl31 rfl rfl TWeight.cells_lit g17_1.1 g17_1.2) <| .op 0 rfl (ldCG rfl sz33 ag33 rfl) <| .op 0 rfl (alP (s := 6) ze33 ⟨rfl, by decide, rfl⟩ rfl) <| .op 0 rfl (asV rfl) <| .op 0 rfl (stB (cs0 := GI_c0) (cs := (TWeight.lit (rdl a0 x1))) (cs1 := (TWeight.lit (rdl a0 x1))) rfl rfl sz33 rfl ⟨Nat.le_of_ble_eq_true rfl, rfl⟩ rfl) <| .nil0) ?_
        refine .seq ?_
        obtain ⟨g18_2, h⟩ := h
        refine .room 0 <| .reg0 rfl (.op 0 rfl (mvR rfl) <| .op 0 rfl (mvV rfl) <| .op 0 rfl (ixR (l := a1) (lit := TWeight.lit) sl31 rfl rfl TWeight.cells_lit g18_2.1 g18_2.2) <| .op 0 rfl (ldCG rfl sz33 ag33 rfl) <| .op 1 rfl (alP (s := 6) ze33 ⟨rfl, by decide, rfl⟩ rfl) <| .op 0 rfl (stB (cs0 := GI_c0) (cs := (TWeight.lit (rdl a1 x1))) (cs1 := (TWeight.lit (rdl a1 x1))) rfl rfl sz33 rfl ⟨Nat.le_of_ble_eq_true rfl, rfl⟩ rfl) <| .nil0) ?_
        refine .seq ?_
        obtain ⟨t19_3, g19_3, h⟩ := h
        refine .reg0 rfl (.o (mvF rfl) <| .o (ldG rfl sz33 ag33 rfl) <| .o (ldG rfl sz33 ag33 rfl) <| .callI rfl (callee_of rfl hg2_ rfl) (.pure (allCons rfl (allCons rfl hka2_)) rfl (hq2_ _ _ _ g19_3)) <| .o (notB rfl) <| .nil0) ?_
        by_cases c7 : t19_3 = true
        · rw [if_pos c7] at h
          refine .condF rfl (bnotF c7) <| .skip <| .inBlock <| .reg0 rfl (.op 0 rfl (addI rfl rfl) <| .op 0 rfl (mvV rfl) <| .nil0) <| .k [(1, .rows (a1.map TWeight.cells)), (2, .clo c2_ k2_), (15, .rows (a0.map TWeight.cells)), (16, i6 (a0.length : Int)), (17, i6 (IntKind.i64.wrap (x1 + 1)))] ⟨.free rfl rfl, .free rfl hk2_, .free rfl rfl, .free rfl rfl, .free rfl rfl, trivial⟩ ?_
          exact hn1 _ h
        · rw [if_neg c7] at h
          refine .condT rfl (bnotT (nb c7)) <| .seq <| .reg0 rfl (.op 0 rfl (asV rfl) <| .nil0) ?_
          have q3 := hr1 _ h
          replace q3 := q3.symm
          subst q3
          refine .kf [(6, bo false)] rfl rfl ?_
          exact .ret rfl
      · rw [if_neg c6] at h
        refine .condF rfl (df c6) <| .exit rfl <| .keepL [] [] [] (by decide) (by decide) trivial trivial ?_
        exact hx1 _ h
  · rw [if_neg c1] at h
    refine .condT rfl (nt c1) <| .seq <| .reg0 rfl (.op 0 rfl (asV rfl) <| .nil0) ?_
    replace h := h.symm
    subst h
    refine .kf [(6, bo false)] rfl rfl ?_
    exact .ret rfl
def weight_Same.step (self32 : TWeight → TWeight → Bool → Prop) (a0 : TWeight) (a1 : TWeight) (r : Bool) : Prop :=
  ∃ t2_17 : Bool, ((a0.Zero = a1.Zero) → (a0.Cost = a1.Cost) → facts_Same.f a0.Facts a1.Facts t2_17) ∧ ∃ t2_24 : Bool, ((a0.Zero = a1.Zero) → (a0.Cost = a1.Cost) → (t2_17 = true) → cells_Same.f a0.Cells a1.Cells t2_24) ∧ ∃ t2_31 : Bool, ((a0.Zero = a1.Zero) → (a0.Cost = a1.Cost) → (t2_17 = true) → (t2_24 = true) → slices_EqualFunc_Weight_Weight_Weight.f a0.Parts a1.Parts (fun x0_ x1_ y_ => self32 x0_ x1_ y_) t2_31) ∧ r = ((a0.Zero == a1.Zero) && ((a0.Cost == a1.Cost) && (t2_17 && (t2_24 && t2_31))))
theorem weight_Same.stepD {self32 : TWeight → TWeight → Bool → Prop} {a0 : TWeight} {a1 : TWeight} (hs32 : ∀ z0_ z1_ r_, self32 z0_ z1_ r_ → D Tryz.prog X (.callH 32 [.agg (TWeight.lit z0_), .agg (TWeight.lit z1_)] [] (.val (.bool r_)) [])) {r : Bool} (h : weight_Same.step self32 a0 a1 r) : D Tryz.prog X (.callH 32 [.agg (TWeight.lit a0), .agg (TWeight.lit a1)] [] (.val (.bool r)) []) := by
  unfold weight_Same.step at h
  refine .enter 38 0 fn32 rfl rfl rfl <| .seq <| .room 0 <| .room 0 <| .reg0 rfl (.op 0 rfl (bxP (s := 6) (cs := (TWeight.lit a0)) rfl ⟨rfl, by decide, rfl⟩ rfl) <| .op 1 rfl (bxP (s := 6) (cs := (TWeight.lit a1)) rfl ⟨rfl, by decide, rfl⟩ rfl) <| .op 0 rfl (asV rfl) <| .nil0) <| .seq ?_
  obtain ⟨t2_17, g2_17, h⟩ := h
  obtain ⟨t2_24, g2_24, h⟩ := h
  obtain ⟨t2_31, g2_31, h⟩ := h
  refine .reg0 (e1 := listEnv [(4, bo ((a0.Zero == a1.Zero) && ((a0.Cost == a1.Cost) && (t2_17 && (t2_24 && t2_31)))))]) (H1 := [⟨6, [(TWeight.lit a0)], 0, none⟩, ⟨6, [(TWeight.lit a1)], 0, none⟩]) rfl ?_ ?_
  · refine .o (faP fa33_0 rfl) <| .o (ldP rfl sz4 ag4 rfl) <| .o (faP fa33_0 rfl) <| .o (ldP rfl sz4 ag4 rfl) <| .o (eqB un4 rfl rfl) <| .m rfl <| ?_
    by_cases c1 : a0.Zero = a1.Zero
    · refine .g rfl (bt c1) (faP fa33_1 rfl) <| .g rfl (bt c1) (ldP rfl sz3 ag3 rfl) <| .g rfl (bt c1) (faP fa33_1 rfl) <| .g rfl (bt c1) (ldP rfl sz3 ag3 rfl) <| .g rfl (bt c1) (eqI rfl rfl) <| .o (pkTV rfl (bt c1) rfl) <| .m rfl <| ?_
      by_cases c2 : a0.Cost = a1.Cost
      · refine .g rfl (bt c2) (faP fa33_2 rfl) <| .g rfl (bt c2) (ldG rfl sz29 ag29 rfl) <| .g rfl (bt c2) (faP fa33_2 rfl) <| .g rfl (bt c2) (ldG rfl sz29 ag29 rfl) <| .callI (gT rfl rfl rfl (bt c2)) (callee_of rfl go56 rfl) (.pure rfl rfl (facts_Same.D (g2_17 c1 c2))) <| .o (pkTV rfl (bt c2) rfl) <| .m rfl <| ?_
        by_cases c3 : t2_17 = true
        · refine .g rfl c3 (faP fa33_3 rfl) <| .g rfl c3 (ldP rfl sz30 ag30 rfl) <| .g rfl c3 (faP fa33_3 rfl) <| .g rfl c3 (ldP rfl sz30 ag30 rfl) <| .callI (gT rfl rfl rfl c3) (callee_of rfl go57 rfl) (.pure rfl rfl (cells_Same.D (g2_24 c1 c2 c3))) <| .o (pkTV rfl c3 rfl) <| .m rfl <| ?_
          by_cases c4 : t2_24 = true
          · exact (.g rfl c4 (faP fa33_4 rfl) <| .g rfl c4 (ldP rfl sz31 ag31 rfl) <| .g rfl c4 (faP fa33_4 rfl) <| .g rfl c4 (ldP rfl sz31 ag31 rfl) <| .callI (gT rfl rfl rfl c4) (callee_of rfl go58 rfl) (.pure rfl rfl (slices_EqualFunc_Weight_Weight_Weight.D (k2_ := []) go32 rfl rfl (fun x0_ x1_ y_ h_ => hs32 _ _ y_ h_) (g2_31 c1 c2 c3 c4))) <| .o (pkTV rfl c4 rfl) <| .a rfl <| .nilL _ ⟨cB rfl (mAndT (bt c1) (mAndT (bt c2) (mAndT c3 (mAndT c4 rfl)))), trivial⟩)
          · exact (.n rfl (nb c4) <| .n rfl (nb c4) <| .n rfl (nb c4) <| .n rfl (nb c4) <| .n rfl (nb c4) <| .o (pkFV rfl (nb c4) rfl) <| .a rfl <| .nilL _ ⟨cB rfl (mAndT (bt c1) (mAndT (bt c2) (mAndT c3 (mAndF (nb c4))))), trivial⟩)
        · exact (.n rfl (nb c3) <| .n rfl (nb c3) <| .n rfl (nb c3) <| .n rfl (nb c3) <| .n rfl (nb c3) <| .o (pkFV rfl (nb c3) rfl) <| .m rfl <| .n rfl rfl <| .n rfl rfl <| .n rfl rfl <| .n rfl rfl <| .n rfl rfl <| .o (pkFV rfl rfl rfl) <| .a rfl <| .nilL _ ⟨cB rfl (mAndT (bt c1) (mAndT (bt c2) (mAndF (nb c3)))), trivial⟩)
      · exact (.n rfl (bn c2) <| .n rfl (bn c2) <| .n rfl (bn c2) <| .n rfl (bn c2) <| .n rfl (bn c2) <| .o (pkFV rfl (bn c2) rfl) <| .m rfl <| .n rfl rfl <| .n rfl rfl <| .n rfl rfl <| .n rfl rfl <| .n rfl rfl <| .o (pkFV rfl rfl rfl) <| .m rfl <| .n rfl rfl <| .n rfl rfl <| .n rfl rfl <| .n rfl rfl <| .n rfl rfl <| .o (pkFV rfl rfl rfl) <| .a rfl <| .nilL _ ⟨cB rfl (mAndT (bt c1) (mAndF (bn c2))), trivial⟩)
    · exact (.n rfl (bn c1) <| .n rfl (bn c1) <| .n rfl (bn c1) <| .n rfl (bn c1) <| .n rfl (bn c1) <| .o (pkFV rfl (bn c1) rfl) <| .m rfl <| .n rfl rfl <| .n rfl rfl <| .n rfl rfl <| .n rfl rfl <| .n rfl rfl <| .o (pkFV rfl rfl rfl) <| .m rfl <| .n rfl rfl <| .n rfl rfl <| .n rfl rfl <| .n rfl rfl <| .n rfl rfl <| .o (pkFV rfl rfl rfl) <| .m rfl <| .n rfl rfl <| .n rfl rfl <| .n rfl rfl <| .n rfl rfl <| .n rfl rfl <| .o (pkFV rfl rfl rfl) <| .a rfl <| .nilL _ ⟨cB rfl (mAndF (bn c1)), trivial⟩)
  replace h := h.symm
  subst h
  refine .kf [(4, bo ((a0.Zero == a1.Zero) && ((a0.Cost == a1.Cost) && (t2_17 && (t2_24 && t2_31)))))] rfl rfl ?_
  exact .ret rfl
def weight_Same.fN : Nat → TWeight → TWeight → Bool → Prop
  | 0 => fun _ _ _ => False
  | n + 1 => weight_Same.step (weight_Same.fN n)
theorem weight_Same.ND : ∀ (n : Nat) {a0 : TWeight} {a1 : TWeight} {r : Bool} (h : weight_Same.fN n a0 a1 r), D Tryz.prog X (.callH 32 [.agg (TWeight.lit a0), .agg (TWeight.lit a1)] [] (.val (.bool r)) [])
  | 0, _, _, _, h => h.elim
  | n + 1, _, _, _, h => weight_Same.stepD (fun _ _ _ h => weight_Same.ND n h) h
def weight_Same.f (a0 : TWeight) (a1 : TWeight) (r : Bool) : Prop := ∃ n, weight_Same.fN n a0 a1 r
theorem weight_Same.D {a0 a1 r} (h : weight_Same.f a0 a1 r) : D Tryz.prog X (.callH 32 [.agg (TWeight.lit a0), .agg (TWeight.lit a1)] [] (.val (.bool r)) []) := by obtain ⟨n, h⟩ := h; exact weight_Same.ND n h
def l05_alive.f (r : Bool) : Prop := r = true
theorem l05_alive.D {r} (h : l05_alive.f r) : D Tryz.prog X (.callH 12 [] [] (.val (.bool r)) []) := by
  rw [show r = true from h]
  exact alive_true
end Go.RM.Tryz
